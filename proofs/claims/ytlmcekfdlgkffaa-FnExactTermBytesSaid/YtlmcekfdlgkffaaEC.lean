/-
  The engine, part 11: ways through a region that meet again; functions as data.
  The engine, part 12: pointers looked at, bits of whatever number, loops that turn some blocks and one slice.
  The engine, part 13: several slices of ours at once; bags of blocks; slices of structs that hold slices.
  The engine, part 14: runs of plain operations, reckoned at once; regions in line; guarded groups; conditions read off.
  The engine, part 15: slices of structs that hold slices, ours with all that hangs on them; how much there is; marks.
  The engine, part 16: the builtin copy into a slice of ours; unsigned words of 64 bits.
  The engine, part 17: regions in whatever order, with a gate: up to the first store more of the world is held.
-/
import Derived.Test.YtlmcekfdlgkffaaEB
import Derived.Laws.Tables
namespace Go.Proofs.Ytlmcekfdlgkffaa
open Go Go.RowKit
set_option linter.unusedVariables false
set_option linter.unusedSimpArgs false

section
variable {P : Program} {n : Nat} {f : Fr} {w w0 : World} {T : List Nat} {R : Hp}
theorem WC.join {c : Code} {Q : Kont} (Post : Fr → World → Prop) (h : WC P n c (fun e f' w' => e = .normal ∧ Post f' w') f w) (k : ∀ f' w', Post f' w' → Q .normal f' w') : WC P n c Q f w :=
  h.mono fun e f' w' ⟨he, hp⟩ => he ▸ k f' w' hp
theorem WC.join0 {c : Code} {Q : Kont} (L : Hp) (G : Fr) (h : WC P n c (fun e f' w' => e = .normal ∧ St w0 T L w' ∧ Sub G f') f w) (k : ∀ f' w', (St w0 T L w' ∧ Sub G f') → Q .normal f' w') : WC P n c Q f w := WC.join _ h k
theorem WC.join1 {c : Code} {Q : Kont} (L : Nat → Hp) (G : Nat → Fr) (h : WC P n c (fun e f' w' => e = .normal ∧ ∃ b, St w0 T (L b) w' ∧ Sub (G b) f') f w) (k : ∀ f' w', (∃ b, St w0 T (L b) w' ∧ Sub (G b) f') → Q .normal f' w') : WC P n c Q f w := WC.join _ h k
theorem WC.join2 {c : Code} {Q : Kont} (L : Nat → Nat → Hp) (G : Nat → Nat → Fr) (h : WC P n c (fun e f' w' => e = .normal ∧ ∃ b b', St w0 T (L b b') w' ∧ Sub (G b b') f') f w) (k : ∀ f' w', (∃ b b', St w0 T (L b b') w' ∧ Sub (G b b') f') → Q .normal f' w') : WC P n c Q f w := WC.join _ h k
theorem WC.join3 {c : Code} {Q : Kont} (L : Nat → Nat → Nat → Hp) (G : Nat → Nat → Nat → Fr) (h : WC P n c (fun e f' w' => e = .normal ∧ ∃ b b' b'', St w0 T (L b b' b'') w' ∧ Sub (G b b' b'') f') f w) (k : ∀ f' w', (∃ b b' b'', St w0 T (L b b' b'') w' ∧ Sub (G b b' b'') f') → Q .normal f' w') : WC P n c Q f w := WC.join _ h k
theorem St.swap (A : Hp) {x y : Nat × Obj} (h : St w0 T (A ++ (x :: y :: R)) w) : St w0 T (A ++ (y :: x :: R)) w := h.perm (List.Perm.append_left A (List.Perm.swap x y R))
theorem St.rot (A : Hp) {x : Nat × Obj} (h : St w0 T (A ++ (x :: R)) w) : St w0 T (x :: (A ++ R)) w := h.perm List.perm_middle.symm
theorem SlF.blk_lt {α : Type} {F : Enc α} {A : Option Addr} {m : Nat} {xs : List α} (h : SlF F w A m xs) (h0 : 0 < m) : (adr A).block < w.heap.size := by
  have hp := F.pos
  have hl : 0 < (rows F xs).length := by rw [rows_len, h.len]; exact Nat.mul_pos h0 hp
  have := h.rd.cell 0 _ (List.getElem?_eq_getElem hl)
  have := cell?_lt this
  rwa [add_block] at this
theorem St.sepT {α : Type} {F : Enc α} {A : Option Addr} {m : Nat} {xs : List α} {L1 : Hp} (hs : St w0 T (L1 ++ R) w) (h : SlF F w0 A m xs) (s : 0 < m → (adr A).block ∉ T) : 0 < m → (adr A).block ∉ L1.map (·.1) := by
  intro h0 hm
  obtain ⟨p, hp, he⟩ := List.mem_map.1 hm
  have h1 := h.blk_lt h0
  rcases (hs.own p (List.mem_append_left _ hp)).2 with h2 | h2
  · omega
  · exact s h0 (he ▸ h2)
theorem St.sepOwn {L1 : Hp} {p : Nat × Obj} (hs : St w0 T (L1 ++ R) w) (hp : p ∈ R) : p.1 ∉ L1.map (·.1) := by
  intro hm
  have hd := hs.nodup
  rw [List.map_append, List.nodup_append] at hd
  exact hd.2.2 _ hm _ (List.mem_map_of_mem hp) rfl
theorem St.takeN (w : World) (H L : Hp) (ho : ∀ p, p ∈ H ++ L → w.heap[p.1]? = some p.2) (hn : ((H ++ L).map (·.1)).Nodup) : St w ((H ++ L).map (·.1)) (H ++ (L ++ [])) w := by
  rw [List.append_nil]; exact St.take w (H ++ L) ho hn
theorem St.nodupL {L1 : Hp} (hs : St w0 T (L1 ++ R) w) : (L1.map (·.1)).Nodup := by
  have hd := hs.nodup
  rw [List.map_append, List.nodup_append] at hd
  exact hd.1
theorem St.ownA {L1 : Hp} (hs : St w0 T (L1 ++ R) w) : ∀ p, p ∈ L1 → w.heap[p.1]? = some p.2 := fun p hp => (hs.own p (List.mem_append_left _ hp)).1
end
/-- A function with what it holds. -/
structure FnD where
  fn : Fn
  caps : List Value
def encFn : Enc FnD := ⟨1, fun d => [.func d.fn #[] d.caps.toArray], ⟨.func 0, []⟩, fun _ => rfl, fun x v h => by simp at h; subst h; rfl, by decide⟩
section
variable {P : Program} {w : World} {o : Oper} {f : Fr} {x y : Operand} {t t' : TypeId} {k : IntKind} {a b : Int}
theorem Run.min (ho : o.op = .call { callee := .builtin .min, args := #[x, y], argTypes := #[t, t'] }) (hx : ev f x = some (.int k a)) (hy : ev f y = some (.int k b)) : Run P o f w (.value (.int k (Min.min a b))) w := fun ρ hρ => by
  have e : (if b < a then b else a) = Min.min a b := by split <;> omega
  simp [execOp, ho, hρ _ _ hx, hρ _ _ hy, resolve, invoke, builtin, go_sem, e]
theorem Run.max (ho : o.op = .call { callee := .builtin .max, args := #[x, y], argTypes := #[t, t'] }) (hx : ev f x = some (.int k a)) (hy : ev f y = some (.int k b)) : Run P o f w (.value (.int k (Max.max a b))) w := fun ρ hρ => by
  have e : (if a < b then b else a) = Max.max a b := by split <;> omega
  simp [execOp, ho, hρ _ _ hx, hρ _ _ hy, resolve, invoke, builtin, go_sem, e]
end
theorem Run.build {P : Program} {w : World} {o : Oper} {f : Fr} {t : TypeId} {parts : Array (Nat × Operand)} {ps : List (Nat × Operand)} {qs : List (Nat × Value)} {vs cl : List Value} (ho : o.op = .build t parts) (hps : parts.toList = ps) (hv : evs f (ps.map (·.2)) = some vs) (hz : (ps.map (·.1)).zip vs = qs) (hb : P.built t qs = some cl.toArray) : Run P o f w (.value (.agg cl.toArray)) w := fun ρ hρ => by
  have e : (parts.map fun p => (p.1, ρ p.2)).toList = qs := by
    rw [Array.toList_map, hps, ← hz]
    have := evs_map hρ hv
    rw [← this]
    clear hz hv hb this hps ho
    induction ps with
    | nil => rfl
    | cons a r ih => simp [ih]
  simp [execOp, ho, run_build w t _ cl.toArray (by rw [e]; exact hb)]
end Go.Proofs.Ytlmcekfdlgkffaa
namespace Go.Proofs.Ytlmcekfdlgkffaa
open Go Go.RowKit
set_option linter.unusedVariables false
set_option linter.unusedSimpArgs false

section
variable {P : Program} {w : World} {o : Oper} {f : Fr} {t t' : TypeId} {x y : Operand} {a b : Int}
theorem Run.nilCheck {p : Addr} (ho : o.op = .nilCheck x) (hx : ev f x = some (.pointer (some p))) : Run P o f w (.value (.pointer (some p))) w := fun ρ hρ => by
  simp [execOp, ho, hρ _ _ hx, asAddr, Instr.sureAddr, go_sem]
def bitsAnd (a b : Int) : Int := IntKind.i64.wrap ((BitVec.ofInt 64 a &&& BitVec.ofInt 64 b).toNat : Int)
def bitsXor (a b : Int) : Int := IntKind.i64.wrap ((BitVec.ofInt 64 a ^^^ BitVec.ofInt 64 b).toNat : Int)
theorem Run.andB (ho : o.op = .binOp .and t x y t') (hx : ev f x = some (.int .i64 a)) (hy : ev f y = some (.int .i64 b)) : Run P o f w (.value (.int .i64 (bitsAnd a b))) w := fun ρ hρ => by
  simp [execOp, ho, hρ _ _ hx, hρ _ _ hy, eqGuard, binOp, Op.intBits]
  rfl
theorem Run.xorB (ho : o.op = .binOp .xor t x y t') (hx : ev f x = some (.int .i64 a)) (hy : ev f y = some (.int .i64 b)) : Run P o f w (.value (.int .i64 (bitsXor a b))) w := fun ρ hρ => by
  simp [execOp, ho, hρ _ _ hx, hρ _ _ hy, eqGuard, binOp, Op.intBits]
  rfl
theorem bitsAnd_mask (a : Int) {m : Int} (h0 : 0 ≤ m) (h1 : m ≤ 9223372036854775807) : 0 ≤ bitsAnd a m ∧ bitsAnd a m ≤ m := by
  have h2 : (BitVec.ofInt 64 a &&& BitVec.ofInt 64 m).toNat ≤ m.toNat := by
    rw [BitVec.toNat_and, bvNat h0 h1]
    exact Nat.and_le_right
  have h3 : In64 (((BitVec.ofInt 64 a &&& BitVec.ofInt 64 m).toNat : Nat) : Int) := by constructor <;> omega
  have h4 : bitsAnd a m = ((BitVec.ofInt 64 a &&& BitVec.ofInt 64 m).toNat : Int) := wrap_in h3
  rw [h4]
  omega
end
/-- A loop that turns some of what is ours; the rest stays. -/
theorem WC.loopV {P : Program} {n : Nat} {c : Code} {Q : Kont} {f : Fr} {w0 w : World} {T : List Nat} {R : Hp} {α : Type} (F : Fr) (hF : Sub F f) (L : α → Hp) (a0 : α) (hst : St w0 T (L a0 ++ R) w) (I : Nat → α → Fr → Prop) (k0 : Nat) (h0 : I k0 a0 f)
    (hr : ∀ k a f w, I k a f → Sub F f → St w0 T (L a ++ R) w → WC P n c (thenK (fun f' w' => Sub F f' ∧ ∃ a', St w0 T (L a' ++ R) w' ∧ ∃ k', k' < k ∧ I k' a' f') Q) f w) : WC P n (.loop c) Q f w :=
  WC.loopN (fun k f w => ∃ a, I k a f ∧ Sub F f ∧ St w0 T (L a ++ R) w) k0 ⟨a0, h0, hF, hst⟩ fun k f w ⟨a, h1, h2, h3⟩ => (hr k a f w h1 h2 h3).mono fun e f' w' q => by
    cases e
    case normal =>
      obtain ⟨q1, a', q2, k', q3, q4⟩ := q
      exact ⟨k', q3, a', q4, q1, q2⟩
    all_goals exact q
theorem St.take1 (w : World) (b : Nat) (o : Obj) (h : w.heap[b]? = some o) : St w [b] [(b, o)] w := by
  have := St.take w [(b, o)] (fun p hp => by simp at hp; subst hp; exact h) (by simp)
  exact this
end Go.Proofs.Ytlmcekfdlgkffaa
namespace Go.Proofs.Ytlmcekfdlgkffaa
open Go Go.RowKit
set_option linter.unusedVariables false
set_option linter.unusedSimpArgs false

section
variable {w0 w : World} {T : List Nat} {L1 L2 L3 L4 L5 L6 L7 L8 L9 R : Hp}
theorem St.grp0 (A : Hp) (h : St w0 T (A ++ R) w) : St w0 T (A ++ R) w := h
theorem St.ungrp0 (A : Hp) (h : St w0 T (A ++ R) w) : St w0 T (A ++ R) w := h
theorem St.grp1 (A : Hp) (h : St w0 T (A ++ (L1 ++ R)) w) : St w0 T ((A ++ (L1)) ++ R) w := by simpa only [List.append_assoc] using h
theorem St.ungrp1 (A : Hp) (h : St w0 T ((A ++ (L1)) ++ R) w) : St w0 T (A ++ (L1 ++ R)) w := by simpa only [List.append_assoc] using h
theorem St.grp2 (A : Hp) (h : St w0 T (A ++ (L1 ++ (L2 ++ R))) w) : St w0 T ((A ++ (L1 ++ L2)) ++ R) w := by simpa only [List.append_assoc] using h
theorem St.ungrp2 (A : Hp) (h : St w0 T ((A ++ (L1 ++ L2)) ++ R) w) : St w0 T (A ++ (L1 ++ (L2 ++ R))) w := by simpa only [List.append_assoc] using h
theorem St.takes2 (w : World) (L1 L2 : Hp) (h1 : ∀ p, p ∈ L1 → w.heap[p.1]? = some p.2) (h2 : ∀ p, p ∈ L2 → w.heap[p.1]? = some p.2) (hd : ((L1 ++ L2).map (·.1)).Nodup) : St w ((L1 ++ L2).map (·.1)) (L1 ++ (L2 ++ [])) w := by
  have h := St.take w (L1 ++ L2) (fun p hp => by
    simp only [List.mem_append] at hp
    rcases hp with hp | hp
    · exact h1 p hp
    · exact h2 p hp) hd
  simpa only [List.append_nil] using h
theorem St.grp3 (A : Hp) (h : St w0 T (A ++ (L1 ++ (L2 ++ (L3 ++ R)))) w) : St w0 T ((A ++ (L1 ++ (L2 ++ L3))) ++ R) w := by simpa only [List.append_assoc] using h
theorem St.ungrp3 (A : Hp) (h : St w0 T ((A ++ (L1 ++ (L2 ++ L3))) ++ R) w) : St w0 T (A ++ (L1 ++ (L2 ++ (L3 ++ R)))) w := by simpa only [List.append_assoc] using h
theorem St.assoc3 (h : St w0 T ((L1 ++ (L2 ++ L3)) ++ R) w) : St w0 T (L1 ++ (L2 ++ (L3 ++ R))) w := by simpa only [List.append_assoc] using h
theorem St.takes3 (w : World) (L1 L2 L3 : Hp) (h1 : ∀ p, p ∈ L1 → w.heap[p.1]? = some p.2) (h2 : ∀ p, p ∈ L2 → w.heap[p.1]? = some p.2) (h3 : ∀ p, p ∈ L3 → w.heap[p.1]? = some p.2) (hd : ((L1 ++ (L2 ++ L3)).map (·.1)).Nodup) : St w ((L1 ++ (L2 ++ L3)).map (·.1)) (L1 ++ (L2 ++ (L3 ++ []))) w := by
  have h := St.take w (L1 ++ (L2 ++ L3)) (fun p hp => by
    simp only [List.mem_append] at hp
    rcases hp with hp | hp | hp
    · exact h1 p hp
    · exact h2 p hp
    · exact h3 p hp) hd
  simpa only [List.append_nil] using h
theorem St.grp4 (A : Hp) (h : St w0 T (A ++ (L1 ++ (L2 ++ (L3 ++ (L4 ++ R))))) w) : St w0 T ((A ++ (L1 ++ (L2 ++ (L3 ++ L4)))) ++ R) w := by simpa only [List.append_assoc] using h
theorem St.ungrp4 (A : Hp) (h : St w0 T ((A ++ (L1 ++ (L2 ++ (L3 ++ L4)))) ++ R) w) : St w0 T (A ++ (L1 ++ (L2 ++ (L3 ++ (L4 ++ R))))) w := by simpa only [List.append_assoc] using h
theorem St.assoc4 (h : St w0 T ((L1 ++ (L2 ++ (L3 ++ L4))) ++ R) w) : St w0 T (L1 ++ (L2 ++ (L3 ++ (L4 ++ R)))) w := by simpa only [List.append_assoc] using h
theorem St.takes4 (w : World) (L1 L2 L3 L4 : Hp) (h1 : ∀ p, p ∈ L1 → w.heap[p.1]? = some p.2) (h2 : ∀ p, p ∈ L2 → w.heap[p.1]? = some p.2) (h3 : ∀ p, p ∈ L3 → w.heap[p.1]? = some p.2) (h4 : ∀ p, p ∈ L4 → w.heap[p.1]? = some p.2) (hd : ((L1 ++ (L2 ++ (L3 ++ L4))).map (·.1)).Nodup) : St w ((L1 ++ (L2 ++ (L3 ++ L4))).map (·.1)) (L1 ++ (L2 ++ (L3 ++ (L4 ++ [])))) w := by
  have h := St.take w (L1 ++ (L2 ++ (L3 ++ L4))) (fun p hp => by
    simp only [List.mem_append] at hp
    rcases hp with hp | hp | hp | hp
    · exact h1 p hp
    · exact h2 p hp
    · exact h3 p hp
    · exact h4 p hp) hd
  simpa only [List.append_nil] using h
theorem St.grp5 (A : Hp) (h : St w0 T (A ++ (L1 ++ (L2 ++ (L3 ++ (L4 ++ (L5 ++ R)))))) w) : St w0 T ((A ++ (L1 ++ (L2 ++ (L3 ++ (L4 ++ L5))))) ++ R) w := by simpa only [List.append_assoc] using h
theorem St.ungrp5 (A : Hp) (h : St w0 T ((A ++ (L1 ++ (L2 ++ (L3 ++ (L4 ++ L5))))) ++ R) w) : St w0 T (A ++ (L1 ++ (L2 ++ (L3 ++ (L4 ++ (L5 ++ R)))))) w := by simpa only [List.append_assoc] using h
theorem St.assoc5 (h : St w0 T ((L1 ++ (L2 ++ (L3 ++ (L4 ++ L5)))) ++ R) w) : St w0 T (L1 ++ (L2 ++ (L3 ++ (L4 ++ (L5 ++ R))))) w := by simpa only [List.append_assoc] using h
theorem St.takes5 (w : World) (L1 L2 L3 L4 L5 : Hp) (h1 : ∀ p, p ∈ L1 → w.heap[p.1]? = some p.2) (h2 : ∀ p, p ∈ L2 → w.heap[p.1]? = some p.2) (h3 : ∀ p, p ∈ L3 → w.heap[p.1]? = some p.2) (h4 : ∀ p, p ∈ L4 → w.heap[p.1]? = some p.2) (h5 : ∀ p, p ∈ L5 → w.heap[p.1]? = some p.2) (hd : ((L1 ++ (L2 ++ (L3 ++ (L4 ++ L5)))).map (·.1)).Nodup) : St w ((L1 ++ (L2 ++ (L3 ++ (L4 ++ L5)))).map (·.1)) (L1 ++ (L2 ++ (L3 ++ (L4 ++ (L5 ++ []))))) w := by
  have h := St.take w (L1 ++ (L2 ++ (L3 ++ (L4 ++ L5)))) (fun p hp => by
    simp only [List.mem_append] at hp
    rcases hp with hp | hp | hp | hp | hp
    · exact h1 p hp
    · exact h2 p hp
    · exact h3 p hp
    · exact h4 p hp
    · exact h5 p hp) hd
  simpa only [List.append_nil] using h
theorem St.grp6 (A : Hp) (h : St w0 T (A ++ (L1 ++ (L2 ++ (L3 ++ (L4 ++ (L5 ++ (L6 ++ R))))))) w) : St w0 T ((A ++ (L1 ++ (L2 ++ (L3 ++ (L4 ++ (L5 ++ L6)))))) ++ R) w := by simpa only [List.append_assoc] using h
theorem St.ungrp6 (A : Hp) (h : St w0 T ((A ++ (L1 ++ (L2 ++ (L3 ++ (L4 ++ (L5 ++ L6)))))) ++ R) w) : St w0 T (A ++ (L1 ++ (L2 ++ (L3 ++ (L4 ++ (L5 ++ (L6 ++ R))))))) w := by simpa only [List.append_assoc] using h
theorem St.assoc6 (h : St w0 T ((L1 ++ (L2 ++ (L3 ++ (L4 ++ (L5 ++ L6))))) ++ R) w) : St w0 T (L1 ++ (L2 ++ (L3 ++ (L4 ++ (L5 ++ (L6 ++ R)))))) w := by simpa only [List.append_assoc] using h
theorem St.takes6 (w : World) (L1 L2 L3 L4 L5 L6 : Hp) (h1 : ∀ p, p ∈ L1 → w.heap[p.1]? = some p.2) (h2 : ∀ p, p ∈ L2 → w.heap[p.1]? = some p.2) (h3 : ∀ p, p ∈ L3 → w.heap[p.1]? = some p.2) (h4 : ∀ p, p ∈ L4 → w.heap[p.1]? = some p.2) (h5 : ∀ p, p ∈ L5 → w.heap[p.1]? = some p.2) (h6 : ∀ p, p ∈ L6 → w.heap[p.1]? = some p.2) (hd : ((L1 ++ (L2 ++ (L3 ++ (L4 ++ (L5 ++ L6))))).map (·.1)).Nodup) : St w ((L1 ++ (L2 ++ (L3 ++ (L4 ++ (L5 ++ L6))))).map (·.1)) (L1 ++ (L2 ++ (L3 ++ (L4 ++ (L5 ++ (L6 ++ [])))))) w := by
  have h := St.take w (L1 ++ (L2 ++ (L3 ++ (L4 ++ (L5 ++ L6))))) (fun p hp => by
    simp only [List.mem_append] at hp
    rcases hp with hp | hp | hp | hp | hp | hp
    · exact h1 p hp
    · exact h2 p hp
    · exact h3 p hp
    · exact h4 p hp
    · exact h5 p hp
    · exact h6 p hp) hd
  simpa only [List.append_nil] using h
theorem St.grp7 (A : Hp) (h : St w0 T (A ++ (L1 ++ (L2 ++ (L3 ++ (L4 ++ (L5 ++ (L6 ++ (L7 ++ R)))))))) w) : St w0 T ((A ++ (L1 ++ (L2 ++ (L3 ++ (L4 ++ (L5 ++ (L6 ++ L7))))))) ++ R) w := by simpa only [List.append_assoc] using h
theorem St.ungrp7 (A : Hp) (h : St w0 T ((A ++ (L1 ++ (L2 ++ (L3 ++ (L4 ++ (L5 ++ (L6 ++ L7))))))) ++ R) w) : St w0 T (A ++ (L1 ++ (L2 ++ (L3 ++ (L4 ++ (L5 ++ (L6 ++ (L7 ++ R)))))))) w := by simpa only [List.append_assoc] using h
theorem St.assoc7 (h : St w0 T ((L1 ++ (L2 ++ (L3 ++ (L4 ++ (L5 ++ (L6 ++ L7)))))) ++ R) w) : St w0 T (L1 ++ (L2 ++ (L3 ++ (L4 ++ (L5 ++ (L6 ++ (L7 ++ R))))))) w := by simpa only [List.append_assoc] using h
theorem St.takes7 (w : World) (L1 L2 L3 L4 L5 L6 L7 : Hp) (h1 : ∀ p, p ∈ L1 → w.heap[p.1]? = some p.2) (h2 : ∀ p, p ∈ L2 → w.heap[p.1]? = some p.2) (h3 : ∀ p, p ∈ L3 → w.heap[p.1]? = some p.2) (h4 : ∀ p, p ∈ L4 → w.heap[p.1]? = some p.2) (h5 : ∀ p, p ∈ L5 → w.heap[p.1]? = some p.2) (h6 : ∀ p, p ∈ L6 → w.heap[p.1]? = some p.2) (h7 : ∀ p, p ∈ L7 → w.heap[p.1]? = some p.2) (hd : ((L1 ++ (L2 ++ (L3 ++ (L4 ++ (L5 ++ (L6 ++ L7)))))).map (·.1)).Nodup) : St w ((L1 ++ (L2 ++ (L3 ++ (L4 ++ (L5 ++ (L6 ++ L7)))))).map (·.1)) (L1 ++ (L2 ++ (L3 ++ (L4 ++ (L5 ++ (L6 ++ (L7 ++ []))))))) w := by
  have h := St.take w (L1 ++ (L2 ++ (L3 ++ (L4 ++ (L5 ++ (L6 ++ L7)))))) (fun p hp => by
    simp only [List.mem_append] at hp
    rcases hp with hp | hp | hp | hp | hp | hp | hp
    · exact h1 p hp
    · exact h2 p hp
    · exact h3 p hp
    · exact h4 p hp
    · exact h5 p hp
    · exact h6 p hp
    · exact h7 p hp) hd
  simpa only [List.append_nil] using h
theorem St.grp8 (A : Hp) (h : St w0 T (A ++ (L1 ++ (L2 ++ (L3 ++ (L4 ++ (L5 ++ (L6 ++ (L7 ++ (L8 ++ R))))))))) w) : St w0 T ((A ++ (L1 ++ (L2 ++ (L3 ++ (L4 ++ (L5 ++ (L6 ++ (L7 ++ L8)))))))) ++ R) w := by simpa only [List.append_assoc] using h
theorem St.ungrp8 (A : Hp) (h : St w0 T ((A ++ (L1 ++ (L2 ++ (L3 ++ (L4 ++ (L5 ++ (L6 ++ (L7 ++ L8)))))))) ++ R) w) : St w0 T (A ++ (L1 ++ (L2 ++ (L3 ++ (L4 ++ (L5 ++ (L6 ++ (L7 ++ (L8 ++ R))))))))) w := by simpa only [List.append_assoc] using h
theorem St.assoc8 (h : St w0 T ((L1 ++ (L2 ++ (L3 ++ (L4 ++ (L5 ++ (L6 ++ (L7 ++ L8))))))) ++ R) w) : St w0 T (L1 ++ (L2 ++ (L3 ++ (L4 ++ (L5 ++ (L6 ++ (L7 ++ (L8 ++ R)))))))) w := by simpa only [List.append_assoc] using h
theorem St.takes8 (w : World) (L1 L2 L3 L4 L5 L6 L7 L8 : Hp) (h1 : ∀ p, p ∈ L1 → w.heap[p.1]? = some p.2) (h2 : ∀ p, p ∈ L2 → w.heap[p.1]? = some p.2) (h3 : ∀ p, p ∈ L3 → w.heap[p.1]? = some p.2) (h4 : ∀ p, p ∈ L4 → w.heap[p.1]? = some p.2) (h5 : ∀ p, p ∈ L5 → w.heap[p.1]? = some p.2) (h6 : ∀ p, p ∈ L6 → w.heap[p.1]? = some p.2) (h7 : ∀ p, p ∈ L7 → w.heap[p.1]? = some p.2) (h8 : ∀ p, p ∈ L8 → w.heap[p.1]? = some p.2) (hd : ((L1 ++ (L2 ++ (L3 ++ (L4 ++ (L5 ++ (L6 ++ (L7 ++ L8))))))).map (·.1)).Nodup) : St w ((L1 ++ (L2 ++ (L3 ++ (L4 ++ (L5 ++ (L6 ++ (L7 ++ L8))))))).map (·.1)) (L1 ++ (L2 ++ (L3 ++ (L4 ++ (L5 ++ (L6 ++ (L7 ++ (L8 ++ [])))))))) w := by
  have h := St.take w (L1 ++ (L2 ++ (L3 ++ (L4 ++ (L5 ++ (L6 ++ (L7 ++ L8))))))) (fun p hp => by
    simp only [List.mem_append] at hp
    rcases hp with hp | hp | hp | hp | hp | hp | hp | hp
    · exact h1 p hp
    · exact h2 p hp
    · exact h3 p hp
    · exact h4 p hp
    · exact h5 p hp
    · exact h6 p hp
    · exact h7 p hp
    · exact h8 p hp) hd
  simpa only [List.append_nil] using h
theorem St.grp9 (A : Hp) (h : St w0 T (A ++ (L1 ++ (L2 ++ (L3 ++ (L4 ++ (L5 ++ (L6 ++ (L7 ++ (L8 ++ (L9 ++ R)))))))))) w) : St w0 T ((A ++ (L1 ++ (L2 ++ (L3 ++ (L4 ++ (L5 ++ (L6 ++ (L7 ++ (L8 ++ L9))))))))) ++ R) w := by simpa only [List.append_assoc] using h
theorem St.ungrp9 (A : Hp) (h : St w0 T ((A ++ (L1 ++ (L2 ++ (L3 ++ (L4 ++ (L5 ++ (L6 ++ (L7 ++ (L8 ++ L9))))))))) ++ R) w) : St w0 T (A ++ (L1 ++ (L2 ++ (L3 ++ (L4 ++ (L5 ++ (L6 ++ (L7 ++ (L8 ++ (L9 ++ R)))))))))) w := by simpa only [List.append_assoc] using h
theorem St.assoc9 (h : St w0 T ((L1 ++ (L2 ++ (L3 ++ (L4 ++ (L5 ++ (L6 ++ (L7 ++ (L8 ++ L9)))))))) ++ R) w) : St w0 T (L1 ++ (L2 ++ (L3 ++ (L4 ++ (L5 ++ (L6 ++ (L7 ++ (L8 ++ (L9 ++ R))))))))) w := by simpa only [List.append_assoc] using h
theorem St.takes9 (w : World) (L1 L2 L3 L4 L5 L6 L7 L8 L9 : Hp) (h1 : ∀ p, p ∈ L1 → w.heap[p.1]? = some p.2) (h2 : ∀ p, p ∈ L2 → w.heap[p.1]? = some p.2) (h3 : ∀ p, p ∈ L3 → w.heap[p.1]? = some p.2) (h4 : ∀ p, p ∈ L4 → w.heap[p.1]? = some p.2) (h5 : ∀ p, p ∈ L5 → w.heap[p.1]? = some p.2) (h6 : ∀ p, p ∈ L6 → w.heap[p.1]? = some p.2) (h7 : ∀ p, p ∈ L7 → w.heap[p.1]? = some p.2) (h8 : ∀ p, p ∈ L8 → w.heap[p.1]? = some p.2) (h9 : ∀ p, p ∈ L9 → w.heap[p.1]? = some p.2) (hd : ((L1 ++ (L2 ++ (L3 ++ (L4 ++ (L5 ++ (L6 ++ (L7 ++ (L8 ++ L9)))))))).map (·.1)).Nodup) : St w ((L1 ++ (L2 ++ (L3 ++ (L4 ++ (L5 ++ (L6 ++ (L7 ++ (L8 ++ L9)))))))).map (·.1)) (L1 ++ (L2 ++ (L3 ++ (L4 ++ (L5 ++ (L6 ++ (L7 ++ (L8 ++ (L9 ++ []))))))))) w := by
  have h := St.take w (L1 ++ (L2 ++ (L3 ++ (L4 ++ (L5 ++ (L6 ++ (L7 ++ (L8 ++ L9)))))))) (fun p hp => by
    simp only [List.mem_append] at hp
    rcases hp with hp | hp | hp | hp | hp | hp | hp | hp | hp
    · exact h1 p hp
    · exact h2 p hp
    · exact h3 p hp
    · exact h4 p hp
    · exact h5 p hp
    · exact h6 p hp
    · exact h7 p hp
    · exact h8 p hp
    · exact h9 p hp) hd
  simpa only [List.append_nil] using h
end

/-! bags -/
def Bag {α : Type} (own : α → Hp → Prop) : List α → Hp → Prop
  | [], L => L = []
  | x :: r, L => ∃ La Lb, L = La ++ Lb ∧ own x La ∧ Bag own r Lb
section
variable {α : Type} {own : α → Hp → Prop} {xs ys : List α} {x : α} {L La Lb : Hp}
theorem Bag.nil : Bag own [] [] := rfl
theorem Bag.append : ∀ {xs : List α} {La : Hp}, Bag own xs La → Bag own ys Lb → Bag own (xs ++ ys) (La ++ Lb)
  | [], La, h, k => by
    have : La = [] := h
    subst this; exact k
  | x :: r, La, h, k => by
    obtain ⟨L1, L2, rfl, h1, h2⟩ := h
    exact ⟨L1, L2 ++ Lb, by rw [List.append_assoc], h1, Bag.append h2 k⟩
theorem Bag.one (h : own x L) : Bag own [x] L := ⟨L, [], by simp, h, rfl⟩
theorem Bag.snoc (h : Bag own xs La) (k : own x Lb) : Bag own (xs ++ [x]) (La ++ Lb) := h.append (Bag.one k)
theorem Bag.split : ∀ {xs : List α} {L : Hp}, Bag own (xs ++ ys) L → ∃ La Lb, L = La ++ Lb ∧ Bag own xs La ∧ Bag own ys Lb
  | [], L, h => ⟨[], L, rfl, rfl, h⟩
  | x :: r, L, h => by
    obtain ⟨L1, L2, rfl, h1, h2⟩ := h
    obtain ⟨La, Lb, rfl, h3, h4⟩ := Bag.split h2
    exact ⟨L1 ++ La, Lb, by rw [List.append_assoc], ⟨L1, La, rfl, h1, h3⟩, h4⟩
theorem Bag.nth {F : Enc α} : ∀ {xs : List α} {L : Hp} {i : Nat}, Bag own xs L → i < xs.length → ∃ La Li Lb, L = La ++ (Li ++ Lb) ∧ own (gat F xs i) Li ∧ ∀ x' Li', own x' Li' → Bag own (xs.set i x') (La ++ (Li' ++ Lb))
  | [], _, _, _, hi => by simp at hi
  | x :: r, L, 0, h, _ => by
    obtain ⟨L1, L2, rfl, h1, h2⟩ := h
    exact ⟨[], L1, L2, rfl, h1, fun x' Li' hx => ⟨Li', L2, rfl, hx, h2⟩⟩
  | x :: r, L, i + 1, h, hi => by
    obtain ⟨L1, L2, rfl, h1, h2⟩ := h
    obtain ⟨La, Li, Lb, rfl, h3, h4⟩ := Bag.nth (F := F) (i := i) h2 (by simpa using hi)
    exact ⟨L1 ++ La, Li, Lb, by rw [List.append_assoc], by simpa [gat] using h3, fun x' Li' hx => ⟨L1, La ++ (Li' ++ Lb), by rw [List.append_assoc], h1, h4 x' Li' hx⟩⟩
theorem Bag.mem : ∀ {xs : List α} {L : Hp}, Bag own xs L → ∀ x, x ∈ xs → ∃ Li, own x Li ∧ ∀ p, p ∈ Li → p ∈ L
  | [], _, _, x, hx => by cases hx
  | y :: r, L, h, x, hx => by
    obtain ⟨L1, L2, rfl, h1, h2⟩ := h
    rcases List.mem_cons.1 hx with rfl | hx
    · exact ⟨L1, h1, fun p hp => List.mem_append_left _ hp⟩
    · obtain ⟨Li, h3, h4⟩ := Bag.mem h2 x hx
      exact ⟨Li, h3, fun p hp => List.mem_append_right _ (h4 p hp)⟩
end
/-- A slice, as it lies in a cell, with what it reads. -/
structure SlD (α : Type) where
  A : Option Addr
  n : Nat
  c : Nat
  xs : List α
/-- A slice of structs that hold slices, read. -/
structure SlN {α : Type} (F : Enc α) (ok : World → α → Prop) (w : World) (A : Option Addr) (n : Nat) (xs : List α) : Prop where
  sl : SlF F w A n xs
  all : ∀ x, x ∈ xs → ok w x
section
variable {α : Type} {F : Enc α} {ok : World → α → Prop} {own : α → Hp → Prop} {w0 w : World} {A : Option Addr} {n c : Nat} {xs : List α} {L L0 L1 : Hp}
theorem SlN.len (h : SlN F ok w A n xs) : xs.length = n := h.sl.len
theorem SlN.nth (h : SlN F ok w A n xs) {i : Nat} (hi : i < n) : ok w (gat F xs i) := h.all _ (gat_mem (by rw [h.sl.len]; exact hi))
theorem SlN.st0 (hk : ∀ {w0 : World} {L : Hp} {w : World} {x : α}, ok w0 x → St w0 [] L w → ok w x) (h : SlN F ok w0 A n xs) (hs : St w0 [] L w) : SlN F ok w A n xs := ⟨SlF.st0 h.sl hs, fun x hx => hk (h.all x hx) hs⟩
theorem SlN.nil (w : World) (A : Option Addr) : SlN F ok w A 0 [] := ⟨SlF.nil _ _, fun x h => by cases h⟩
theorem SlN.ofOwn (hk : ∀ {x : α} {L : Hp} {w : World}, own x L → (∀ p, p ∈ L → w.heap[p.1]? = some p.2) → ok w x) {e : TypeId} (ho : OwnF F e (.slice A n c) xs L0) (hb : Bag own xs L1) (h0 : ∀ p, p ∈ L0 → w.heap[p.1]? = some p.2) (h1 : ∀ p, p ∈ L1 → w.heap[p.1]? = some p.2) : SlN F ok w A n xs :=
  ⟨SlF.ofOwn ho h0, fun x hx => by
    obtain ⟨Li, h2, h3⟩ := hb.mem x hx
    exact hk h2 fun p hp => h1 p (h3 p hp)⟩
end
end Go.Proofs.Ytlmcekfdlgkffaa
namespace Go.Proofs.Ytlmcekfdlgkffaa
open Go Go.RowKit
set_option linter.unusedVariables false
set_option linter.unusedSimpArgs false

/-! what is known of types -/
inductive TK where
  | int (k : IntKind)
  | bool
  | str
  | slice (e : TypeId)
  | struct (offs : List Nat)
  | other
structure TyK where
  k : TK
  sz : Nat
  agg : Bool
inductive TT where
  | leaf
  | node (l : TT) (t : Nat) (v : TyK) (r : TT)
def TT.get : TT → Nat → Option TyK
  | .leaf, _ => none
  | .node l k v r, t => bif Nat.beq t k then some v else bif Nat.blt t k then l.get t else r.get t
section
variable (P : Program)
def AllSz : List Field → Prop
  | [] => True
  | f :: r => (∃ sz, (∀ w, (sizeOf f.type).run P w = .ok sz w) ∧ Nat.beq sz 0 = false) ∧ AllSz r
def TK.Ok (t : TypeId) : TK → Prop
  | .int k => ∀ w, (underlying t).run P w = .ok (.int k) w
  | .bool => ∀ w, (underlying t).run P w = .ok .bool w
  | .str => ∀ w, (underlying t).run P w = .ok .string w
  | .slice e => ∀ w, (underlying t).run P w = .ok (.slice e) w
  | .struct offs => ∃ fs, (∀ w, (underlying t).run P w = .ok (.struct fs) w) ∧ fs.toList.map (·.offset) = offs ∧ AllSz P fs.toList
  | .other => True
def TyK.Ok (t : TypeId) (v : TyK) : Prop := v.k.Ok P t ∧ (∀ w, (sizeOf t).run P w = .ok v.sz w) ∧ (∀ w, (isAgg t).run P w = .ok v.agg w)
def TT.Ok : TT → Prop
  | .leaf => True
  | .node l t v r => l.Ok ∧ v.Ok P t ∧ r.Ok
end
theorem TT.get_ok {P : Program} : ∀ {tb : TT} {t : Nat} {v : TyK}, tb.Ok P → tb.get t = some v → v.Ok P t
  | .leaf, _, _, _, h => by cases h
  | .node l k u r, t, v, h, hg => by
    unfold TT.get at hg
    cases hb : Nat.beq t k with
    | true =>
      rw [hb] at hg
      cases hg
      rw [Nat.eq_of_beq_eq_true hb]
      exact h.2.1
    | false =>
      rw [hb] at hg
      cases hl : Nat.blt t k with
      | true => rw [hl] at hg; exact TT.get_ok h.1 hg
      | false => rw [hl] at hg; exact TT.get_ok h.2.2 hg
theorem allSz_get {P : Program} : ∀ {fs : List Field} {i : Nat} {f : Field}, AllSz P fs → fs[i]? = some f → ∃ sz, (∀ w, (sizeOf f.type).run P w = .ok sz w) ∧ Nat.beq sz 0 = false
  | [], _, _, _, h => by simp at h
  | g :: r, 0, f, h, hi => by simp at hi; subst hi; exact h.1
  | g :: r, i + 1, f, h, hi => allSz_get (fs := r) (i := i) h.2 (by simpa using hi)

/-! runs of operations -/
def ikB : IntKind → IntKind → Bool
  | .i64, .i64 => true
  | .u8, .u8 => true
  | .u32, .u32 => true
  | _, _ => false
theorem ikB_eq {a b : IntKind} (h : ikB a b = true) : a = b := by
  unfold ikB at h; split at h <;> first | rfl | cases h
def nthV : List Value → Nat → Option Value
  | [], _ => none
  | v :: _, 0 => some v
  | _ :: r, i + 1 => nthV r i
theorem nthV_eq : ∀ (l : List Value) (i : Nat), nthV l i = l[i]?
  | [], _ => by simp [nthV]
  | v :: _, 0 => by simp [nthV]
  | _ :: r, i + 1 => by simp [nthV, nthV_eq r i]
def nthN : List Nat → Nat → Option Nat
  | [], _ => none
  | v :: _, 0 => some v
  | _ :: r, i + 1 => nthN r i
theorem nthN_eq : ∀ (l : List Nat) (i : Nat), nthN l i = l[i]?
  | [], _ => by simp [nthN]
  | v :: _, 0 => by simp [nthN]
  | _ :: r, i + 1 => by simp [nthN, nthN_eq r i]
section
variable {β : Type}
def dropK : List Value → Nat → (List Value → Option β) → Option β
  | l, 0, k => k l
  | [], _ + 1, _ => none
  | _ :: r, i + 1, k => dropK r i k
def takeK : List Value → Nat → (List Value → Option β) → Option β
  | _, 0, k => k []
  | [], _ + 1, _ => none
  | v :: r, i + 1, k => takeK r i fun q => k (v :: q)
theorem dropK_some {k : List Value → Option β} {x : β} : ∀ {l : List Value} {i : Nat}, dropK l i k = some x → k (l.drop i) = some x ∧ i ≤ l.length
  | l, 0, h => ⟨by simpa [dropK] using h, Nat.zero_le _⟩
  | [], i + 1, h => by cases h
  | _ :: r, i + 1, h => by
    have := dropK_some (l := r) (i := i) h
    exact ⟨by simpa using this.1, by simpa using this.2⟩
theorem takeK_some {x : β} : ∀ {l : List Value} {i : Nat} {k : List Value → Option β}, takeK l i k = some x → k (l.take i) = some x ∧ i ≤ l.length
  | l, 0, _, h => ⟨by simpa [takeK] using h, Nat.zero_le _⟩
  | [], i + 1, _, h => by cases h
  | v :: r, i + 1, k, h => by
    have := takeK_some (l := r) (i := i) (k := fun q => k (v :: q)) h
    exact ⟨by simpa using this.1, by simpa using this.2⟩
/-- What an operation yields, with what is to be shown for it. h: the blocks that loads look into, by their places in L. -/
def sv (tb : TT) (L : Hp) (op : Op) (f : Fr) (h : List Nat) (S : Prop) (k : Value → List Nat → Prop → Option β) : Option β :=
  match op with
  | .move x => match ev f x with
    | some v => k v h S
    | none => none
  | .assign x => match ev f x with
    | some v => k v h S
    | none => none
  | .unOp u _ x => match u, ev f x with
    | .not, some (.bool b) => k (.bool (!b)) h S
    | .neg, some (.int .i64 a) => k (.int .i64 (-a)) h (In64 (-a) ∧ S)
    | _, _ => none
  | .binOp b t x y _ => match ev f x, ev f y with
    | some (.int ka a), some (.int kb c) => bif ikB ka kb then (match b with
      | .lss => k (.bool (decide (a < c))) h S
      | .leq => k (.bool (decide (a ≤ c))) h S
      | .gtr => k (.bool (decide (c < a))) h S
      | .geq => k (.bool (decide (c ≤ a))) h S
      | .eql => k (.bool (decide (a = c))) h S
      | .neq => k (.bool (!decide (a = c))) h S
      | .add => bif ikB ka .i64 then k (.int .i64 (a + c)) h (In64 (a + c) ∧ S) else none
      | .sub => bif ikB ka .i64 then k (.int .i64 (a - c)) h (In64 (a - c) ∧ S) else none
      | .mul => bif ikB ka .i64 then k (.int .i64 (a * c)) h (In64 (a * c) ∧ S) else none
      | _ => none) else none
    | some (.string a), some (.string c) => (match b with
      | .eql => k (.bool (decide (a = c))) h S
      | .neq => k (.bool (!decide (a = c))) h S
      | _ => none)
    | some (.bool a), some (.bool c) => (match tb.get t with
      | some ⟨.bool, _, _⟩ => (match b with
        | .eql => k (.bool (a == c)) h S
        | .neq => k (.bool (!(a == c))) h S
        | _ => none)
      | _ => none)
    | _, _ => none
  | .convert s d x => match tb.get s, tb.get d with
    | some ⟨.int ks, _, _⟩, some ⟨.int kd, _, _⟩ => (match ev f x with
      | some (.int kv a) => bif ikB kv ks then (bif ikB kd .u8 then k (.int .u8 ((ub a).toNat)) h S else bif ikB kd .i64 then k (.int .i64 a) h (In64 a ∧ S) else none) else none
      | _ => none)
    | _, _ => none
  | .extract x i => match ev f x with
    | some (.tuple vs) => (match nthV vs.toList i with
      | some v => k v h S
      | none => none)
    | _ => none
  | .fieldAddr s x i => match tb.get s, ev f x with
    | some ⟨.struct offs, _, _⟩, some (.pointer (some ⟨b, off, none⟩)) => (match nthN offs i with
      | some o => k (.pointer (some ⟨b, off + o, none⟩)) h S
      | none => none)
    | _, _ => none
  | .load t x => match h with
    | i :: h' => (match tb.get t, ev f x, nthL L i with
      | some ⟨_, sz, ag⟩, some (.pointer (some ⟨b, off, none⟩)), some (b', .cells cs _ _) => bif ag then dropK cs.toList off fun l => takeK l sz fun q => k (.agg q.toArray) h' (b' = b ∧ S)
        else (match nthV cs.toList off with
          | some v => k v h' (b' = b ∧ S)
          | none => none)
      | _, _, _ => none)
    | [] => none
  | .call c => match c.callee, c.args.toList, c.argTypes.toList with
    | .builtin .len, [x], [t] => (match tb.get t, ev f x with
      | some ⟨.slice _, _, _⟩, some (.slice _ l _) => k (.int .i64 l) h S
      | some ⟨.str, _, _⟩, some (.string s) => k (.int .i64 s.size) h S
      | _, _ => none)
    | .builtin .cap, [x], [t] => (match tb.get t, ev f x with
      | some ⟨.slice _, _, _⟩, some (.slice _ _ c) => k (.int .i64 c) h S
      | _, _ => none)
    | .builtin .min, [x, y], [t, t'] => (match ev f x, ev f y with
      | some (.int ka a), some (.int kb c) => bif ikB ka kb then k (.int ka (Min.min a c)) h S else none
      | _, _ => none)
    | .builtin .max, [x, y], [t, t'] => (match ev f x, ev f y with
      | some (.int ka a), some (.int kb c) => bif ikB ka kb then k (.int ka (Max.max a c)) h S else none
      | _, _ => none)
    | _, _, _ => none
  | _ => none
end
section
variable {P : Program} {tb : TT} {w0 w : World} {T : List Nat} {L : Hp} {f : Fr}
theorem sv_ok {β : Type} {op : Op} {h : List Nat} {S : Prop} {k : Value → List Nat → Prop → Option β} {x : β} (htb : tb.Ok P) (hsv : sv tb L op f h S k = some x) :
    ∃ v h' S', k v h' S' = some x ∧ (S' → S ∧ ∀ w, St w0 T L w → ∀ o : Oper, o.op = op → Run P o f w (.value v) w) := by
  unfold sv at hsv
  split at hsv
  -- move
  · split at hsv
    · rename_i v hv
      exact ⟨_, _, _, hsv, fun hS => ⟨hS, fun w hst o ho => Run.move ho hv⟩⟩
    · cases hsv
  · split at hsv
    · rename_i v hv
      exact ⟨_, _, _, hsv, fun hS => ⟨hS, fun w hst o ho => Run.assign ho hv⟩⟩
    · cases hsv
  -- unOp
  · split at hsv
    · rename_i b hv
      exact ⟨_, _, _, hsv, fun hS => ⟨hS, fun w hst o ho => Run.not ho hv⟩⟩
    · rename_i a hv
      exact ⟨_, _, _, hsv, fun hS => ⟨hS.2, fun w hst o ho => Run.neg ho hv (neg_in hS.1)⟩⟩
    · cases hsv
  -- binOp
  · split at hsv
    · rename_i ka a kc c hx hy
      cases hk : ikB ka kc with
      | false => rw [hk] at hsv; cases hsv
      | true =>
        have := ikB_eq hk
        subst this
        rw [hk] at hsv
        dsimp only [cond_true] at hsv
        split at hsv
        · exact ⟨_, _, _, hsv, fun hS => ⟨hS, fun w hst o ho => Run.lss ho hx hy⟩⟩
        · exact ⟨_, _, _, hsv, fun hS => ⟨hS, fun w hst o ho => Run.leq ho hx hy⟩⟩
        · exact ⟨_, _, _, hsv, fun hS => ⟨hS, fun w hst o ho => Run.gtr ho hx hy⟩⟩
        · exact ⟨_, _, _, hsv, fun hS => ⟨hS, fun w hst o ho => Run.geq ho hx hy⟩⟩
        · exact ⟨_, _, _, hsv, fun hS => ⟨hS, fun w hst o ho => Run.eql ho hx hy⟩⟩
        · exact ⟨_, _, _, hsv, fun hS => ⟨hS, fun w hst o ho => Run.neq ho hx hy⟩⟩
        all_goals first
          | (cases hsv; done)
          | (cases h64 : ikB ka .i64 with
             | false => rw [h64] at hsv; cases hsv
             | true =>
               rw [h64] at hsv
               have := ikB_eq h64
               subst this
               first
                 | exact ⟨_, _, _, hsv, fun hS => ⟨hS.2, fun w hst o ho => Run.add ho hx hy hS.1⟩⟩
                 | exact ⟨_, _, _, hsv, fun hS => ⟨hS.2, fun w hst o ho => Run.sub ho hx hy hS.1⟩⟩
                 | exact ⟨_, _, _, hsv, fun hS => ⟨hS.2, fun w hst o ho => Run.mul ho hx hy hS.1⟩⟩)
    · rename_i a c hx hy
      split at hsv
      · exact ⟨_, _, _, hsv, fun hS => ⟨hS, fun w hst o ho => Run.eqlS ho hx hy⟩⟩
      · exact ⟨_, _, _, hsv, fun hS => ⟨hS, fun w hst o ho => Run.neqS ho hx hy⟩⟩
      · cases hsv
    · rename_i a c hx hy
      split at hsv
      · rename_i ht
        have hu := (TT.get_ok htb ht).1
        split at hsv
        · exact ⟨_, _, _, hsv, fun hS => ⟨hS, fun w hst o ho => Run.eqlB hu ho hx hy⟩⟩
        · exact ⟨_, _, _, hsv, fun hS => ⟨hS, fun w hst o ho => Run.neqB hu ho hx hy⟩⟩
        · cases hsv
      · cases hsv
    · cases hsv
  -- convert
  · split at hsv
    · rename_i ks _ _ kd _ _ hs hd
      have hus := (TT.get_ok htb hs).1
      have hud := (TT.get_ok htb hd).1
      split at hsv
      · rename_i kv a hx
        cases hk : ikB kv ks with
        | false => rw [hk] at hsv; cases hsv
        | true =>
          have := ikB_eq hk
          subst this
          rw [hk] at hsv
          dsimp only [cond_true] at hsv
          cases h8 : ikB kd .u8 with
          | true =>
            rw [h8] at hsv
            have := ikB_eq h8
            subst this
            exact ⟨_, _, _, hsv, fun hS => ⟨hS, fun w hst o ho => Run.convU8 hus hud ho hx⟩⟩
          | false =>
            rw [h8] at hsv
            dsimp only [cond_false] at hsv
            cases h64 : ikB kd .i64 with
            | false => rw [h64] at hsv; cases hsv
            | true =>
              rw [h64] at hsv
              have := ikB_eq h64
              subst this
              refine ⟨_, _, _, hsv, fun hS => ⟨hS.2, fun w hst o ho => ?_⟩⟩
              have := Run.conv (P := P) (w := w) hus hud ho hx
              rwa [wrap_in hS.1] at this
      · cases hsv
    · cases hsv
  -- extract
  · split at hsv
    · rename_i vs hx
      split at hsv
      · rename_i v hv
        rw [nthV_eq] at hv
        exact ⟨_, _, _, hsv, fun hS => ⟨hS, fun w hst o ho => Run.extract ho hx hv⟩⟩
      · cases hsv
    · cases hsv
  -- fieldAddr
  · split at hsv
    · rename_i offs _ _ b off ht hx
      obtain ⟨fs, hu, hoffs, hall⟩ := (TT.get_ok htb ht).1
      split at hsv
      · rename_i i _ o hi
        rw [nthN_eq, ← hoffs, List.getElem?_map] at hi
        obtain ⟨fd, hfd, rfl⟩ := Option.map_eq_some_iff.1 hi
        obtain ⟨sz, hz, hz0⟩ := allSz_get hall hfd
        exact ⟨_, _, _, hsv, fun hS => ⟨hS, fun w hst o ho => Run.field hu ho hx hfd hz hz0⟩⟩
      · cases hsv
    · cases hsv
  -- load
  · split at hsv
    · split at hsv
      · rename_i i h' _ sz ag b off b' cs e fz ht hx hi
        obtain ⟨-, hz, hag⟩ := TT.get_ok htb ht
        cases ag with
        | true =>
          dsimp only [cond_true] at hsv
          obtain ⟨h1, hlo⟩ := dropK_some hsv
          obtain ⟨h2, hln⟩ := takeK_some h1
          refine ⟨_, _, _, h2, fun hS => ⟨hS.2, fun w hst o ho => ?_⟩⟩
          obtain ⟨rfl, -⟩ := hS
          have hh := (hst.own _ (nthL_mem hi)).1
          refine Run.loadA hag hz ho hx (cells_of_heap (cl := cs.toList) (by simpa using hh) rfl ?_)
          rw [List.length_take]; exact Nat.min_eq_left hln
        | false =>
          dsimp only [cond_false] at hsv
          split at hsv
          · rename_i v hv
            rw [nthV_eq] at hv
            refine ⟨_, _, _, hsv, fun hS => ⟨hS.2, fun w hst o ho => ?_⟩⟩
            obtain ⟨rfl, -⟩ := hS
            have hh := (hst.own _ (nthL_mem hi)).1
            exact Run.load hag ho hx (cell_of_heap (cl := cs.toList) (by simpa using hh) hv)
          · cases hsv
      · cases hsv
    · cases hsv
  -- call
  · rename_i c
    split at hsv
    · rename_i x t hc ha ht
      have e : ∀ o : Oper, o.op = .call c → o.op = .call { callee := .builtin .len, args := #[x], argTypes := #[t] } := fun o ho => by
        rw [ho]
        obtain ⟨c1, c2, c3⟩ := c
        simp only at hc ha ht
        subst hc
        congr 2
        · exact Array.toList_inj.1 ha
        · exact Array.toList_inj.1 ht
      split at hsv
      · rename_i _ _ _ _ l _ hg hx
        exact ⟨_, _, _, hsv, fun hS => ⟨hS, fun w hst o ho => Run.lenSl (TT.get_ok htb hg).1 (e o ho) hx⟩⟩
      · rename_i hg hx
        exact ⟨_, _, _, hsv, fun hS => ⟨hS, fun w hst o ho => Run.lenStr (TT.get_ok htb hg).1 (e o ho) hx⟩⟩
      · cases hsv
    · rename_i x t hc ha ht
      have e : ∀ o : Oper, o.op = .call c → o.op = .call { callee := .builtin .cap, args := #[x], argTypes := #[t] } := fun o ho => by
        rw [ho]
        obtain ⟨c1, c2, c3⟩ := c
        simp only at hc ha ht
        subst hc
        congr 2
        · exact Array.toList_inj.1 ha
        · exact Array.toList_inj.1 ht
      split at hsv
      · rename_i hg hx
        exact ⟨_, _, _, hsv, fun hS => ⟨hS, fun w hst o ho => Run.capSl (TT.get_ok htb hg).1 (e o ho) hx⟩⟩
      · cases hsv
    · rename_i x y t t' hc ha ht
      have e : ∀ o : Oper, o.op = .call c → o.op = .call { callee := .builtin .min, args := #[x, y], argTypes := #[t, t'] } := fun o ho => by
        rw [ho]
        obtain ⟨c1, c2, c3⟩ := c
        simp only at hc ha ht
        subst hc
        congr 2
        · exact Array.toList_inj.1 ha
        · exact Array.toList_inj.1 ht
      split at hsv
      · rename_i ka a kc c hx hy
        cases hk : ikB ka kc with
        | false => rw [hk] at hsv; cases hsv
        | true =>
          have := ikB_eq hk
          subst this
          rw [hk] at hsv
          exact ⟨_, _, _, hsv, fun hS => ⟨hS, fun w hst o ho => Run.min (e o ho) hx hy⟩⟩
      · cases hsv
    · rename_i x y t t' hc ha ht
      have e : ∀ o : Oper, o.op = .call c → o.op = .call { callee := .builtin .max, args := #[x, y], argTypes := #[t, t'] } := fun o ho => by
        rw [ho]
        obtain ⟨c1, c2, c3⟩ := c
        simp only at hc ha ht
        subst hc
        congr 2
        · exact Array.toList_inj.1 ha
        · exact Array.toList_inj.1 ht
      split at hsv
      · rename_i ka a kc c hx hy
        cases hk : ikB ka kc with
        | false => rw [hk] at hsv; cases hsv
        | true =>
          have := ikB_eq hk
          subst this
          rw [hk] at hsv
          exact ⟨_, _, _, hsv, fun hS => ⟨hS, fun w hst o ho => Run.max (e o ho) hx hy⟩⟩
      · cases hsv
    · cases hsv
  · cases hsv
end
/-! the frame forgets, by what it tells -/
def SubS (F f : Fr) : Prop := ∀ i v, lk F i = some v → lk f i = some v
theorem SubS.refl (f : Fr) : SubS f f := fun _ _ h => h
theorem SubS.trans {F G f : Fr} (h : SubS F G) (k : SubS G f) : SubS F f := fun i v hi => k i v (h i v hi)
theorem SubS.cons {F f : Fr} {d : Nat} {v : Value} (h : SubS F f) (hd : lk F d = none) : SubS F ((d, v) :: f) := fun i u hi => by
  unfold lk
  cases hb : Nat.beq d i with
  | true =>
    rw [Nat.eq_of_beq_eq_true hb] at hd
    rw [hd] at hi; cases hi
  | false => exact h i u hi
theorem SubS.put {F f : Fr} {d : Nat} {v : Value} (h : SubS F f) (hv : lk f d = some v) : SubS ((d, v) :: F) f := fun i u hi => by
  unfold lk at hi
  cases hb : Nat.beq d i with
  | true =>
    rw [hb] at hi
    rw [← Nat.eq_of_beq_eq_true hb, hv]
    exact hi
  | false =>
    rw [hb] at hi
    exact h i u hi
theorem SubS.head {F f : Fr} {d : Nat} {v : Value} (h : SubS F f) : SubS ((d, v) :: F) ((d, v) :: f) := fun i u hi => by
  unfold lk at hi ⊢
  cases hb : Nat.beq d i with
  | true => rw [hb] at hi; exact hi
  | false => rw [hb] at hi; exact h i u hi
/-- The first k entries are of slots that the rest does not tell. -/
def subB (F : Fr) : Nat → Fr → Option Fr
  | 0, f => some f
  | _ + 1, [] => none
  | k + 1, (d, _) :: f => match lk F d with
    | none => subB F k f
    | some _ => none
theorem subB_ok {F : Fr} : ∀ {k : Nat} {f : Fr}, subB F k f = some F → SubS F f
  | 0, f, h => by simp [subB] at h; subst h; exact SubS.refl _
  | k + 1, [], h => by cases h
  | k + 1, (d, v) :: f, h => by
    unfold subB at h
    split at h
    · rename_i hd; exact (subB_ok h).cons hd
    · cases h
theorem Good.subS {a : Act} {n : Nat} {F f : Fr} (h : Good a n f) (hs : SubS F f) : Good a n F := ⟨h.size, h.defers, fun i v hv => h.at_ i v (hs i v hv)⟩
theorem WC.subS {P : Program} {n : Nat} {Q : Kont} {c : Code} {F f : Fr} {w : World} (hs : SubS F f) (h : WC P n c Q F w) : WC P n c Q f w := fun a ha => h a (ha.subS hs)
section
variable {P : Program} {w : World} {n : Nat} {ol : List Oper} {K : Fr → World → Prop} {KQ : Fr → Prop} {C : World → Prop}
theorem WL.subS {l : List Oper} {F f : Fr} (hs : SubS F f) (h : WL P n ol l K F w) : WL P n ol l K f w := fun Q a ha hk => h Q a (ha.subS hs) hk
theorem WQ.subS {l : List Oper} {F f : Fr} (hs : SubS F f) (h : WQ P n ol l C KQ F) : WQ P n ol l C KQ f := fun a ha => h a (ha.subS hs)
end

/-! which guards are known to be met -/
def actB : List (Nat × Bool) → Nat → Bool → Bool
  | [], _, _ => false
  | (j, b) :: r, i, c => (Nat.beq j i && (b == c)) || actB r i c
def Acts (ol : List Oper) (act : List (Nat × Bool)) (f : Fr) : Prop := ∀ j b, actB act j b = true → ∃ oj dj, nthO ol j = some oj ∧ oj.dst = some dj ∧ lk f dj = some (.bool b)
theorem Acts.nil {ol : List Oper} {f : Fr} : Acts ol [] f := fun _ _ h => by cases h
def actH (ol : List Oper) (j : Nat) (f : Fr) : Option Bool :=
  match nthO ol j with
  | some oj => (match oj.dst with
    | some dj => (match lk f dj with
      | some (.bool g) => some g
      | _ => none)
    | none => none)
  | none => none
theorem actH_ok {ol : List Oper} {j : Nat} {f : Fr} {g : Bool} (h : actH ol j f = some g) : ∃ oj dj, nthO ol j = some oj ∧ oj.dst = some dj ∧ lk f dj = some (.bool g) := by
  unfold actH at h
  split at h
  · rename_i oj hj
    split at h
    · rename_i dj hd
      split at h
      · rename_i g' hl
        cases h
        exact ⟨_, _, hj, hd, hl⟩
      · cases h
    · cases h
  · cases h
theorem Acts.cons {ol : List Oper} {act : List (Nat × Bool)} {f : Fr} {j : Nat} {g b : Bool} (h : Acts ol act f) (hj : actH ol j f = some g) (hg : g = b) : Acts ol ((j, b) :: act) f := fun i c hi => by
  simp only [actB, Bool.or_eq_true, Bool.and_eq_true, beq_iff_eq] at hi
  rcases hi with ⟨h1, rfl⟩ | hi
  · rw [← Nat.eq_of_beq_eq_true h1, ← hg]; exact actH_ok hj
  · exact h i c hi
theorem Acts.put {ol : List Oper} {act : List (Nat × Bool)} {f : Fr} {d : Nat} {v : Value} (h : Acts ol act f) (hd : lk f d = none) : Acts ol act ((d, v) :: f) := fun i c hi => by
  obtain ⟨oj, dj, h1, h2, h3⟩ := h i c hi
  exact ⟨oj, dj, h1, h2, (SubS.refl f).cons hd dj _ h3⟩
/-- Is the operation wanted, with the guards of act met? -/
def wantA (ol : List Oper) (act : List (Nat × Bool)) (o : Oper) (f : Fr) : Bool :=
  match o.guard with
  | none => true
  | some (j, b) => actB act j b
theorem wantA_ok {ol : List Oper} {act : List (Nat × Bool)} {o : Oper} {f : Fr} (ha : Acts ol act f) (h : wantA ol act o f = true) : want ol o f = some true := by
  unfold wantA at h
  unfold want
  cases hg : o.guard with
  | none => rfl
  | some p =>
    obtain ⟨j, b⟩ := p
    rw [hg] at h
    obtain ⟨oj, dj, h1, h2, h3⟩ := ha j b h
    simp [h1, h2, h3]
def frB (act : List (Nat × Bool)) (f : Fr) (d : Nat) : Bool :=
  match act with
  | [] => true
  | _ :: _ => match lk f d with
    | none => true
    | some _ => false
theorem frB_ok {ol : List Oper} {act : List (Nat × Bool)} {f : Fr} {d : Nat} {v : Value} (ha : Acts ol act f) (h : frB act f d = true) : Acts ol act ((d, v) :: f) := by
  cases act with
  | nil => exact Acts.nil
  | cons p r =>
    unfold frB at h
    simp only at h
    split at h
    · rename_i hd; exact ha.put hd
    · cases h
/-- A run of plain operations. -/
def runs (tb : TT) (n : Nat) (ol : List Oper) (L : Hp) (act : List (Nat × Bool)) : Nat → List Oper → Fr → List Nat → Prop → Option (List Oper × Fr × Prop)
  | 0, l, f, _, S => some (l, f, S)
  | _ + 1, [], _, _, _ => none
  | m + 1, o :: r, f, h, S => match o.dst with
    | some d => bif wantA ol act o f && Nat.blt d n && frB act f d then sv tb L o.op f h S fun v h' S' => runs tb n ol L act m r ((d, v) :: f) h' S' else none
    | none => none
section
variable {P : Program} {tb : TT} {w0 w : World} {T : List Nat} {L : Hp} {n : Nat} {ol : List Oper} {act : List (Nat × Bool)} {K : Fr → World → Prop} {KQ : Fr → Prop} {C : World → Prop}
theorem runs_ok (htb : tb.Ok P) : ∀ {m : Nat} {l l' : List Oper} {f f' : Fr} {h : List Nat} {S S' : Prop}, Acts ol act f → runs tb n ol L act m l f h S = some (l', f', S') → S' → S ∧ Acts ol act f' ∧ (∀ w, St w0 T L w → WL P n ol l' K f' w → WL P n ol l K f w) ∧ (WQ P n ol l' (fun w' => St w0 T L w') KQ f' → WQ P n ol l (fun w' => St w0 T L w') KQ f)
  | 0, l, l', f, f', h, S, S', ha, hr, hS => by
    simp only [runs, Option.some.injEq, Prod.mk.injEq] at hr
    obtain ⟨rfl, rfl, rfl⟩ := hr
    exact ⟨hS, ha, fun _ _ => id, id⟩
  | m + 1, [], l', f, f', h, S, S', ha, hr, hS => by cases hr
  | m + 1, o :: r, l', f, f', h, S, S', ha, hr, hS => by
    unfold runs at hr
    split at hr
    · rename_i d hd
      cases hc : (wantA ol act o f && Nat.blt d n && frB act f d) with
      | false => rw [hc] at hr; cases hr
      | true =>
        rw [hc] at hr
        dsimp only [cond_true] at hr
        simp only [Bool.and_eq_true] at hc
        obtain ⟨v, h', S1, hk, hv⟩ := sv_ok (w0 := w0) (T := T) htb hr
        obtain ⟨h1, h2, h3, h4⟩ := runs_ok htb (frB_ok ha hc.2) hk hS
        obtain ⟨h5, h6⟩ := hv h1
        have hw := wantA_ok ha hc.1.1
        exact ⟨h5, h2, fun w hst hl => WL.val hw hd hc.1.2 (h6 w hst o rfl) (h3 w hst hl), fun hl => WQ.val hw hd hc.1.2 (fun w hst => h6 w hst o rfl) (h4 hl)⟩
    · cases hr
/-- A run of plain operations that look into blocks of ours. -/
theorem WL.run (htb : tb.Ok P) (m : Nat) (hst : St w0 T L w) (h : List Nat) {l l' : List Oper} {f f' : Fr} {S : Prop} (hr : runs tb n ol L [] m l f h True = some (l', f', S)) (hS : S) (k : WL P n ol l' K f' w) : WL P n ol l K f w :=
  (runs_ok (KQ := fun _ => True) htb Acts.nil hr hS).2.2.1 w hst k
theorem WL.runA {f : Fr} (htb : tb.Ok P) (m : Nat) (ha : Acts ol act f) (hst : St w0 T L w) (h : List Nat) {l l' : List Oper} {f' : Fr} {S : Prop} (hr : runs tb n ol L act m l f h True = some (l', f', S)) (hS : S) (k : WL P n ol l' K f' w) : WL P n ol l K f w :=
  (runs_ok (KQ := fun _ => True) htb ha hr hS).2.2.1 w hst k
theorem WQ.run (htb : tb.Ok P) (m : Nat) (h : List Nat) {l l' : List Oper} {f f' : Fr} {S : Prop} (hr : runs tb n ol L [] m l f h True = some (l', f', S)) (hS : S) (k : WQ P n ol l' (fun w' => St w0 T L w') KQ f') : WQ P n ol l (fun w' => St w0 T L w') KQ f :=
  (runs_ok (K := fun _ _ => True) htb Acts.nil hr hS).2.2.2 k
theorem WQ.runA {f : Fr} (htb : tb.Ok P) (m : Nat) (ha : Acts ol act f) (h : List Nat) {l l' : List Oper} {f' : Fr} {S : Prop} (hr : runs tb n ol L act m l f h True = some (l', f', S)) (hS : S) (k : WQ P n ol l' (fun w' => St w0 T L w') KQ f') : WQ P n ol l (fun w' => St w0 T L w') KQ f :=
  (runs_ok (K := fun _ _ => True) htb ha hr hS).2.2.2 k
/-! guarded groups -/
/-- A group that is passed over. -/
def skG (n : Nat) (ol : List Oper) (j : Nat) (bb : Bool) : Nat → List Oper → Fr → Option (List Oper × Fr)
  | 0, l, f => some (l, f)
  | _ + 1, [], _ => none
  | m + 1, o :: r, f => match o.dst with
    | some d => (match lk f d with
      | none => bif Nat.blt d n then (match o.guard with
        | some (i, b) => bif Nat.beq i j && (b == bb) then skG n ol j bb m r ((d, undef) :: f) else (match want ol o f with
          | some false => skG n ol j bb m r ((d, undef) :: f)
          | _ => none)
        | none => none) else none
      | some _ => none)
    | none => none
theorem skG_ok {j : Nat} {bb : Bool} : ∀ {m : Nat} {l l' : List Oper} {f f' : Fr}, actH ol j f = some (!bb) → skG n ol j bb m l f = some (l', f') → SubS f f' ∧ (∀ w, WL P n ol l' K f' w → WL P n ol l K f w) ∧ (WQ P n ol l' C KQ f' → WQ P n ol l C KQ f)
  | 0, l, l', f, f', ha, h => by
    simp only [skG, Option.some.injEq, Prod.mk.injEq] at h
    obtain ⟨rfl, rfl⟩ := h
    exact ⟨SubS.refl _, fun _ => id, id⟩
  | m + 1, [], l', f, f', ha, h => by cases h
  | m + 1, o :: r, l', f, f', ha, h => by
    unfold skG at h
    split at h
    · rename_i d hd
      split at h
      · rename_i hf
        cases hn : Nat.blt d n with
        | false => rw [hn] at h; cases h
        | true =>
          rw [hn] at h
          dsimp only [cond_true] at h
          have ha' : actH ol j ((d, undef) :: f) = some (!bb) := by
            obtain ⟨oj, dj, h1, h2, h3⟩ := actH_ok ha
            have := (SubS.refl f).cons (v := undef) hf dj _ h3
            unfold actH
            rw [h1]; simp only [h2, this]
          have fin : want ol o f = some false → skG n ol j bb m r ((d, undef) :: f) = some (l', f') → SubS f f' ∧ (∀ w, WL P n ol l' K f' w → WL P n ol (o :: r) K f w) ∧ (WQ P n ol l' C KQ f' → WQ P n ol (o :: r) C KQ f) := fun hw hk => by
            obtain ⟨h1, h2, h3⟩ := skG_ok ha' hk
            exact ⟨(SubS.refl f).cons hf |>.trans h1, fun w hl => WL.skip hw hd hn (h2 w hl), fun hl => WQ.skip hw hd hn (h3 hl)⟩
          split at h
          · rename_i i b hgd
            cases hc : (Nat.beq i j && (b == bb)) with
            | true =>
              rw [hc] at h
              simp only [Bool.and_eq_true, beq_iff_eq] at hc
              obtain ⟨h1, rfl⟩ := hc
              obtain ⟨oj, dj, g1, g2, g3⟩ := actH_ok ha
              rw [← Nat.eq_of_beq_eq_true h1] at g1
              refine fin ?_ h
              unfold want
              simp only [hgd, g1, g2, g3]
              cases b <;> rfl
            | false =>
              rw [hc] at h
              dsimp only [cond_false] at h
              split at h
              · rename_i hw; exact fin hw h
              · cases h
          · cases h
      · cases h
    · cases h
/-- The head of a guarded group of e operations: which way it is taken, what it hangs on, where the pick puts it, what comes behind. -/
def actD (ol : List Oper) (j : Nat) : Option Nat :=
  match nthO ol j with
  | some oj => oj.dst
  | none => none
def grpH (n : Nat) (ol : List Oper) (act : List (Nat × Bool)) (e : Nat) (l : List Oper) (f : Fr) : Option (Bool × Bool × Nat × Nat × List Oper) :=
  match l with
  | o1 :: _ => (match o1.guard with
    | some (j, bb) => (match actH ol j f, actD ol j, skG n ol j bb e l f with
      | some g, some dj, some (o :: rest, _) => (match o.dst, o.op with
        | some d, .pick (.tmp t) x y => bif wantA ol act o f && Nat.blt d n && Nat.beq t dj then (match bb, x, y with
          | true, _, .const (.bool false) => some (true, g, j, d, rest)
          | false, .const (.bool true), _ => some (false, g, j, d, rest)
          | _, _, _ => none) else none
        | _, _ => none)
      | _, _, _ => none)
    | none => none)
  | [] => none
theorem Acts.subS {ol : List Oper} {act : List (Nat × Bool)} {F f : Fr} (h : Acts ol act F) (hs : SubS F f) : Acts ol act f := fun i c hi => by
  obtain ⟨oj, dj, h1, h2, h3⟩ := h i c hi
  exact ⟨oj, dj, h1, h2, hs _ _ h3⟩
theorem wantA_ok' {ol : List Oper} {act : List (Nat × Bool)} {o : Oper} {F f : Fr} (ha : Acts ol act f) (h : wantA ol act o F = true) : want ol o f = some true := wantA_ok (f := f) ha (by unfold wantA at h ⊢; exact h)
theorem want_none {o : Oper} {f : Fr} (h : o.guard = none) : want ol o f = some true := by unfold want; rw [h]
theorem grpH_ok {e : Nat} {l rest : List Oper} {f : Fr} {bb g : Bool} {j d : Nat} (ha : Acts ol act f) (h : grpH n ol act e l f = some (bb, g, j, d, rest)) :
    actH ol j f = some g ∧ (g = !bb → (∀ w, WL P n ol rest K ((d, .bool (!bb)) :: f) w → WL P n ol l K f w) ∧ (WQ P n ol rest C KQ ((d, .bool (!bb)) :: f) → WQ P n ol l C KQ f)) := by
  unfold grpH at h
  split at h
  · rename_i o1 r
    split at h
    · rename_i j' b' hgd
      split at h
      · rename_i g' dj o rest' f' hact hdj hsk
        split at h
        · rename_i d' t x y hdst hop
          cases hc : (wantA ol act o f && Nat.blt d' n && Nat.beq t dj) with
          | false => rw [hc] at h; cases h
          | true =>
            rw [hc] at h
            dsimp only [cond_true] at h
            simp only [Bool.and_eq_true] at hc
            have main : bb = b' → g = g' → j = j' → d = d' → rest = rest' → (∀ F : Fr, lk F t = some (.bool g') → g' = !b' → ∀ w, Run P o F w (.value (.bool (!b'))) w) →
                actH ol j f = some g ∧ (g = !bb → (∀ w, WL P n ol rest K ((d, .bool (!bb)) :: f) w → WL P n ol (o1 :: r) K f w) ∧ (WQ P n ol rest C KQ ((d, .bool (!bb)) :: f) → WQ P n ol (o1 :: r) C KQ f)) := by
              rintro rfl rfl rfl rfl rfl hrun
              refine ⟨hact, fun hg => ?_⟩
              obtain ⟨h1, h2, h3⟩ := skG_ok (P := P) (K := K) (KQ := KQ) (C := C) (by rw [hact, hg]) hsk
              obtain ⟨oj, dj', e1, e2, e3⟩ := actH_ok hact
              have hdd : dj' = dj := by
                unfold actD at hdj
                rw [e1] at hdj
                simp only at hdj
                rw [e2] at hdj
                exact Option.some.inj hdj
              have ht : lk f' t = some (.bool g) := by
                rw [Nat.eq_of_beq_eq_true hc.2, ← hdd]
                exact h1 _ _ e3
              exact ⟨fun w hl => h2 w (WL.val (wantA_ok' (ha.subS h1) hc.1.1) hdst hc.1.2 (hrun f' ht hg w) (WL.subS h1.head hl)),
                fun hl => h3 (WQ.val (wantA_ok' (ha.subS h1) hc.1.1) hdst hc.1.2 (fun w _ => hrun f' ht hg w) (WQ.subS h1.head hl))⟩
            split at h
            · simp only [Option.some.injEq, Prod.mk.injEq] at h
              obtain ⟨rfl, rfl, rfl, rfl, rfl⟩ := h
              exact main rfl rfl rfl rfl rfl fun F hF hg w => Run.pickF hop hF hg rfl
            · simp only [Option.some.injEq, Prod.mk.injEq] at h
              obtain ⟨rfl, rfl, rfl, rfl, rfl⟩ := h
              exact main rfl rfl rfl rfl rfl fun F hF hg w => Run.pickT hop hF hg rfl
            · cases h
        · cases h
      · cases h
    · cases h
  · cases h
/-- The pick at the end of a group that was gone through. -/
def pickH (n : Nat) (ol : List Oper) (act : List (Nat × Bool)) (o : Oper) (bb : Bool) (F : Fr) : Option (Nat × Bool × Bool) :=
  match o.dst, o.op with
  | some d, .pick c x y => bif wantA ol act o F && Nat.blt d n then (match ev F c, (bif bb then ev F x else ev F y) with
    | some (.bool g), some (.bool b) => some (d, g, b)
    | _, _ => none) else none
  | _, _ => none
theorem pickH_ok {o : Oper} {bb : Bool} {F : Fr} {d : Nat} {g b : Bool} (ha : Acts ol act F) (h : pickH n ol act o bb F = some (d, g, b)) : want ol o F = some true ∧ o.dst = some d ∧ Nat.blt d n = true ∧ (g = bb → ∀ w, Run P o F w (.value (.bool b)) w) := by
  unfold pickH at h
  split at h
  · rename_i d' c x y h2 h3
    cases hn : (wantA ol act o F && Nat.blt d' n) with
    | false => rw [hn] at h; cases h
    | true =>
      rw [hn] at h
      dsimp only [cond_true] at h
      simp only [Bool.and_eq_true] at hn
      split at h
      · rename_i g' b' hc hb
        simp only [Option.some.injEq, Prod.mk.injEq] at h
        obtain ⟨rfl, rfl, rfl⟩ := h
        refine ⟨wantA_ok ha hn.1, h2, hn.2, fun hg w => ?_⟩
        cases bb with
        | true => exact Run.pickT h3 hc hg hb
        | false => exact Run.pickF h3 hc hg hb
      · cases h
  · cases h
theorem WL.gA {l rest : List Oper} {f : Fr} {g b : Bool} {j d : Nat} (e : Nat) (ha : Acts ol act f) (hst : St w0 T L w) (hh : grpH n ol act e l f = some (true, g, j, d, rest)) (hT : g = true → (∀ w', St w0 T L w' → WL P n ol rest K ((d, .bool (g && b)) :: f) w') → WL P n ol l K f w)
    (J : (∀ w', St w0 T L w' → WL P n ol rest K ((d, .bool (g && b)) :: f) w')) : WL P n ol l K f w := by
  obtain ⟨h1, h2⟩ := grpH_ok (P := P) (K := K) (KQ := fun _ => True) (C := fun _ => True) ha hh
  cases g with
  | true => exact hT rfl J
  | false => exact (h2 rfl).1 w (J w hst)
theorem WL.eA {o : Oper} {rest : List Oper} {F f : Fr} {g b : Bool} {d : Nat} (k : Nat) (ha : Acts ol act F) (J : (∀ w', St w0 T L w' → WL P n ol rest K ((d, .bool (g && b)) :: f) w')) (hst : St w0 T L w) (hg : g = true) (hp : pickH n ol act o true F = some (d, g, b)) (hs : subB f k F = some f) : WL P n ol (o :: rest) K F w := by
  obtain ⟨h1, h2, h3, h4⟩ := pickH_ok (P := P) ha hp
  refine WL.val h1 h2 h3 (h4 hg w) (WL.subS (subB_ok hs).head ?_)
  have := J w hst
  rwa [hg, Bool.true_and] at this
theorem WL.pA {l rest : List Oper} {o : Oper} {f F : Fr} {g b : Bool} {j d : Nat} {S : Prop} (htb : tb.Ok P) (e : Nat) (ha : Acts ol act f) (hst : St w0 T L w) (h : List Nat) (hh : grpH n ol act e l f = some (true, g, j, d, rest)) (hr : runs tb n ol L ((j, true) :: act) e l f h True = some (o :: rest, F, S)) (hp : pickH n ol act o true F = some (d, g, b)) (hs : subB f e F = some f) (hS : g = true → S)
    (k : WL P n ol rest K ((d, .bool (g && b)) :: f) w) : WL P n ol l K f w := by
  obtain ⟨h1, h2⟩ := grpH_ok (P := P) (K := K) (KQ := fun _ => True) (C := fun _ => True) ha hh
  cases hg : g with
  | true =>
    subst hg
    obtain ⟨p1, p2, p3, p4⟩ := pickH_ok (P := P) (ha.subS (subB_ok hs)) hp
    refine WL.runA htb e (ha.cons h1 rfl) hst h hr (hS rfl) (WL.val p1 p2 p3 (p4 rfl w) (WL.subS (subB_ok hs).head ?_))
    rwa [Bool.true_and] at k
  | false => subst hg; exact (h2 rfl).1 w k
theorem WQ.gA {l rest : List Oper} {f : Fr} {g b : Bool} {j d : Nat} (e : Nat) (ha : Acts ol act f) (hh : grpH n ol act e l f = some (true, g, j, d, rest)) (hT : g = true → WQ P n ol rest C KQ ((d, .bool (g && b)) :: f) → WQ P n ol l C KQ f)
    (J : WQ P n ol rest C KQ ((d, .bool (g && b)) :: f)) : WQ P n ol l C KQ f := by
  obtain ⟨h1, h2⟩ := grpH_ok (P := P) (K := fun _ _ => True) (KQ := KQ) (C := C) ha hh
  cases g with
  | true => exact hT rfl J
  | false => exact (h2 rfl).2 J
theorem WQ.eA {o : Oper} {rest : List Oper} {F f : Fr} {g b : Bool} {d : Nat} (k : Nat) (ha : Acts ol act F) (J : WQ P n ol rest C KQ ((d, .bool (g && b)) :: f)) (hg : g = true) (hp : pickH n ol act o true F = some (d, g, b)) (hs : subB f k F = some f) : WQ P n ol (o :: rest) C KQ F := by
  obtain ⟨h1, h2, h3, h4⟩ := pickH_ok (P := P) ha hp
  refine WQ.val h1 h2 h3 (fun w _ => h4 hg w) (WQ.subS (subB_ok hs).head ?_)
  rwa [hg, Bool.true_and] at J
theorem WQ.pA {l rest : List Oper} {o : Oper} {f F : Fr} {g b : Bool} {j d : Nat} {S : Prop} (htb : tb.Ok P) (e : Nat) (ha : Acts ol act f) (h : List Nat) (hh : grpH n ol act e l f = some (true, g, j, d, rest)) (hr : runs tb n ol L ((j, true) :: act) e l f h True = some (o :: rest, F, S)) (hp : pickH n ol act o true F = some (d, g, b)) (hs : subB f e F = some f) (hS : g = true → S)
    (k : WQ P n ol rest (fun w' => St w0 T L w') KQ ((d, .bool (g && b)) :: f)) : WQ P n ol l (fun w' => St w0 T L w') KQ f := by
  obtain ⟨h1, h2⟩ := grpH_ok (P := P) (K := fun _ _ => True) (KQ := KQ) (C := fun w' => St w0 T L w') ha hh
  cases hg : g with
  | true =>
    subst hg
    obtain ⟨p1, p2, p3, p4⟩ := pickH_ok (P := P) (ha.subS (subB_ok hs)) hp
    refine WQ.runA htb e (ha.cons h1 rfl) h hr (hS rfl) (WQ.val p1 p2 p3 (fun w _ => p4 rfl w) (WQ.subS (subB_ok hs).head ?_))
    rwa [Bool.true_and] at k
  | false => subst hg; exact (h2 rfl).2 k
theorem WL.gO {l rest : List Oper} {f : Fr} {g b : Bool} {j d : Nat} (e : Nat) (ha : Acts ol act f) (hst : St w0 T L w) (hh : grpH n ol act e l f = some (false, g, j, d, rest)) (hT : g = false → (∀ w', St w0 T L w' → WL P n ol rest K ((d, .bool (g || b)) :: f) w') → WL P n ol l K f w)
    (J : (∀ w', St w0 T L w' → WL P n ol rest K ((d, .bool (g || b)) :: f) w')) : WL P n ol l K f w := by
  obtain ⟨h1, h2⟩ := grpH_ok (P := P) (K := K) (KQ := fun _ => True) (C := fun _ => True) ha hh
  cases g with
  | false => exact hT rfl J
  | true => exact (h2 rfl).1 w (J w hst)
theorem WL.eO {o : Oper} {rest : List Oper} {F f : Fr} {g b : Bool} {d : Nat} (k : Nat) (ha : Acts ol act F) (J : (∀ w', St w0 T L w' → WL P n ol rest K ((d, .bool (g || b)) :: f) w')) (hst : St w0 T L w) (hg : g = false) (hp : pickH n ol act o false F = some (d, g, b)) (hs : subB f k F = some f) : WL P n ol (o :: rest) K F w := by
  obtain ⟨h1, h2, h3, h4⟩ := pickH_ok (P := P) ha hp
  refine WL.val h1 h2 h3 (h4 hg w) (WL.subS (subB_ok hs).head ?_)
  have := J w hst
  rwa [hg, Bool.false_or] at this
theorem WL.pO {l rest : List Oper} {o : Oper} {f F : Fr} {g b : Bool} {j d : Nat} {S : Prop} (htb : tb.Ok P) (e : Nat) (ha : Acts ol act f) (hst : St w0 T L w) (h : List Nat) (hh : grpH n ol act e l f = some (false, g, j, d, rest)) (hr : runs tb n ol L ((j, false) :: act) e l f h True = some (o :: rest, F, S)) (hp : pickH n ol act o false F = some (d, g, b)) (hs : subB f e F = some f) (hS : g = false → S)
    (k : WL P n ol rest K ((d, .bool (g || b)) :: f) w) : WL P n ol l K f w := by
  obtain ⟨h1, h2⟩ := grpH_ok (P := P) (K := K) (KQ := fun _ => True) (C := fun _ => True) ha hh
  cases hg : g with
  | false =>
    subst hg
    obtain ⟨p1, p2, p3, p4⟩ := pickH_ok (P := P) (ha.subS (subB_ok hs)) hp
    refine WL.runA htb e (ha.cons h1 rfl) hst h hr (hS rfl) (WL.val p1 p2 p3 (p4 rfl w) (WL.subS (subB_ok hs).head ?_))
    rwa [Bool.false_or] at k
  | true => subst hg; exact (h2 rfl).1 w k
theorem WQ.gO {l rest : List Oper} {f : Fr} {g b : Bool} {j d : Nat} (e : Nat) (ha : Acts ol act f) (hh : grpH n ol act e l f = some (false, g, j, d, rest)) (hT : g = false → WQ P n ol rest C KQ ((d, .bool (g || b)) :: f) → WQ P n ol l C KQ f)
    (J : WQ P n ol rest C KQ ((d, .bool (g || b)) :: f)) : WQ P n ol l C KQ f := by
  obtain ⟨h1, h2⟩ := grpH_ok (P := P) (K := fun _ _ => True) (KQ := KQ) (C := C) ha hh
  cases g with
  | false => exact hT rfl J
  | true => exact (h2 rfl).2 J
theorem WQ.eO {o : Oper} {rest : List Oper} {F f : Fr} {g b : Bool} {d : Nat} (k : Nat) (ha : Acts ol act F) (J : WQ P n ol rest C KQ ((d, .bool (g || b)) :: f)) (hg : g = false) (hp : pickH n ol act o false F = some (d, g, b)) (hs : subB f k F = some f) : WQ P n ol (o :: rest) C KQ F := by
  obtain ⟨h1, h2, h3, h4⟩ := pickH_ok (P := P) ha hp
  refine WQ.val h1 h2 h3 (fun w _ => h4 hg w) (WQ.subS (subB_ok hs).head ?_)
  rwa [hg, Bool.false_or] at J
theorem WQ.pO {l rest : List Oper} {o : Oper} {f F : Fr} {g b : Bool} {j d : Nat} {S : Prop} (htb : tb.Ok P) (e : Nat) (ha : Acts ol act f) (h : List Nat) (hh : grpH n ol act e l f = some (false, g, j, d, rest)) (hr : runs tb n ol L ((j, false) :: act) e l f h True = some (o :: rest, F, S)) (hp : pickH n ol act o false F = some (d, g, b)) (hs : subB f e F = some f) (hS : g = false → S)
    (k : WQ P n ol rest (fun w' => St w0 T L w') KQ ((d, .bool (g || b)) :: f)) : WQ P n ol l (fun w' => St w0 T L w') KQ f := by
  obtain ⟨h1, h2⟩ := grpH_ok (P := P) (K := fun _ _ => True) (KQ := KQ) (C := fun w' => St w0 T L w') ha hh
  cases hg : g with
  | false =>
    subst hg
    obtain ⟨p1, p2, p3, p4⟩ := pickH_ok (P := P) (ha.subS (subB_ok hs)) hp
    refine WQ.runA htb e (ha.cons h1 rfl) h hr (hS rfl) (WQ.val p1 p2 p3 (fun w _ => p4 rfl w) (WQ.subS (subB_ok hs).head ?_))
    rwa [Bool.false_or] at k
  | true => subst hg; exact (h2 rfl).2 k
end
/-! stores and new variables, reckoned at once -/
section
variable {β : Type}
def copyK : List Value → (List Value → Option β) → Option β
  | [], k => k []
  | v :: r, k => copyK r fun q => k (v :: q)
def setK : List Value → Nat → Value → (List Value → Option β) → Option β
  | [], _, _, _ => none
  | _ :: r, 0, v, k => k (v :: r)
  | x :: r, i + 1, v, k => setK r i v fun q => k (x :: q)
/-- The cells vs laid over what begins at off. -/
def overK : List Value → List Value → (List Value → Option β) → Option β
  | r, [], k => k r
  | [], _ :: _, _ => none
  | _ :: r, v :: vs, k => overK r vs fun q => k (v :: q)
def repK : List Value → Nat → List Value → (List Value → Option β) → Option β
  | r, 0, vs, k => overK r vs k
  | [], _ + 1, _, _ => none
  | x :: r, i + 1, vs, k => repK r i vs fun q => k (x :: q)
def setLK : Hp → Nat → Obj → (Hp → Option β) → Option β
  | [], _, _, _ => none
  | (b, _) :: r, 0, o, k => k ((b, o) :: r)
  | p :: r, i + 1, o, k => setLK r i o fun q => k (p :: q)
theorem copyK_some {x : β} : ∀ {l : List Value} {k : List Value → Option β}, copyK l k = some x → k l = some x
  | [], _, h => h
  | v :: r, k, h => copyK_some (l := r) (k := fun q => k (v :: q)) h
theorem setK_some {x : β} : ∀ {l : List Value} {i : Nat} {v : Value} {k : List Value → Option β}, setK l i v k = some x → k (l.set i v) = some x ∧ i < l.length
  | [], _, _, _, h => by cases h
  | _ :: r, 0, v, k, h => ⟨h, by simp⟩
  | y :: r, i + 1, v, k, h => by
    have := setK_some (l := r) (i := i) (k := fun q => k (y :: q)) h
    exact ⟨this.1, by simpa using this.2⟩
theorem overK_some {x : β} : ∀ {l vs : List Value} {k : List Value → Option β}, overK l vs k = some x → k (vs ++ l.drop vs.length) = some x ∧ vs.length ≤ l.length
  | l, [], k, h => by
    have h' : k l = some x := by cases l <;> exact h
    exact ⟨by simpa using h', Nat.zero_le _⟩
  | [], _ :: _, _, h => by cases h
  | _ :: r, v :: vs, k, h => by
    have := overK_some (l := r) (vs := vs) (k := fun q => k (v :: q)) h
    exact ⟨by simpa using this.1, by simpa using this.2⟩
theorem repK_some {x : β} : ∀ {l vs : List Value} {i : Nat} {k : List Value → Option β}, repK l i vs k = some x → k (l.take i ++ vs ++ l.drop (i + vs.length)) = some x ∧ i + vs.length ≤ l.length
  | l, vs, 0, k, h => by
    have h' : overK l vs k = some x := by cases l <;> exact h
    have := overK_some h'
    exact ⟨by simpa using this.1, by simpa using this.2⟩
  | [], _, _ + 1, _, h => by cases h
  | y :: r, vs, i + 1, k, h => by
    have := repK_some (l := r) (vs := vs) (i := i) (k := fun q => k (y :: q)) h
    refine ⟨?_, by have := this.2; simp only [List.length_cons]; omega⟩
    have e : i + 1 + vs.length = (i + vs.length) + 1 := by omega
    rw [e, List.take_succ_cons, List.drop_succ_cons]
    exact this.1
theorem setLK_some {x : β} : ∀ {l : Hp} {i : Nat} {o : Obj} {k : Hp → Option β}, setLK l i o k = some x → k (setL l i o) = some x
  | [], _, _, _, h => by cases h
  | (b, _) :: r, 0, o, k, h => h
  | p :: r, i + 1, o, k, h => setLK_some (l := r) (i := i) (k := fun q => k (p :: q)) h
end
def oneB (v : Value) : Bool := v.oneCell'
def stC (tb : TT) (o : Oper) (f : Fr) (L : Hp) (i : Nat) : Option (Hp × Prop) :=
  match o.guard, o.dst, o.op with
  | none, none, .store t x y => (match tb.get t, ev f x, ev f y, nthL L i with
    | some ⟨_, sz, ag⟩, some (.pointer (some ⟨b, off, none⟩)), some v, some (b', .cells cs e (lo, hi)) => bif Nat.ble hi lo then (match ag, v with
      | true, .agg vs => bif vs.toList.all oneB && Nat.beq vs.toList.length sz then repK cs.toList off vs.toList (fun cl => setLK L i (.cells cl.toArray e (lo, hi)) fun L' => some (L', b' = b)) else none
      | false, v => bif oneB v && Nat.beq sz 1 then setK cs.toList off v (fun cl => setLK L i (.cells cl.toArray e (lo, hi)) fun L' => some (L', b' = b)) else none
      | _, _ => none) else none
    | _, _, _, _ => none)
  | _, _, _ => none
section
variable {P : Program} {tb : TT} {w0 w : World} {T : List Nat} {L : Hp} {n : Nat} {ol rest : List Oper} {K : Fr → World → Prop} {f : Fr} {o : Oper}
theorem WL.st (htb : tb.Ok P) (hst : St w0 T L w) (i : Nat) {L' : Hp} {S : Prop} (h : stC tb o f L i = some (L', S)) (hS : S) (k : ∀ w', St w0 T L' w' → WL P n ol rest K f w') : WL P n ol (o :: rest) K f w := by
  unfold stC at h
  split at h
  · rename_i t x y hg hd ho
    split at h
    · rename_i sz ag b off v b' cs e lo hi ht hx hy hL
      obtain ⟨-, hz, hag⟩ := TT.get_ok htb ht
      cases hle : Nat.ble hi lo with
      | false => rw [hle] at h; cases h
      | true =>
        rw [hle] at h
        dsimp only [cond_true] at h
        have hle' := Nat.le_of_ble_eq_true hle
        split at h
        · rename_i vs
          cases hc : (vs.toList.all oneB && Nat.beq vs.toList.length sz) with
          | false => rw [hc] at h; cases h
          | true =>
            rw [hc] at h
            dsimp only [cond_true] at h
            simp only [Bool.and_eq_true] at hc
            obtain ⟨h1, h2⟩ := repK_some h
            have h3 := setLK_some h1
            simp only [Option.some.injEq, Prod.mk.injEq] at h3
            obtain ⟨rfl, rfl⟩ := h3
            obtain rfl : b' = b := hS
            have hsz := Nat.eq_of_beq_eq_true hc.2
            have h4 : off + sz ≤ cs.toList.length := by rw [← hsz]; exact h2
            refine WL.storeA (cl := cs.toList) (vs := vs.toList) hst i hz ho (want_none hg) hd hx hy rfl (by simpa using hL) hc.1 hsz h4 (.inl hle') fun w' hw' => k w' ?_
            rw [hsz] at h1 h2
            simpa [hsz] using hw'
        · cases hc : (oneB v && Nat.beq sz 1) with
          | false => rw [hc] at h; cases h
          | true =>
            rw [hc] at h
            dsimp only [cond_true] at h
            simp only [Bool.and_eq_true] at hc
            obtain ⟨h1, h2⟩ := setK_some h
            have h3 := setLK_some h1
            simp only [Option.some.injEq, Prod.mk.injEq] at h3
            obtain ⟨rfl, rfl⟩ := h3
            obtain rfl : b' = b := hS
            have hsz := Nat.eq_of_beq_eq_true hc.2
            subst hsz
            exact WL.storeI (cl := cs.toList) hst i hz ho (want_none hg) hd hx hy (by simpa using hL) hc.1 h2 (by omega) fun w' hw' => k w' hw'
        · cases h
    · cases h
  · cases h
def cellsK (v : Value) : Option (List Value) :=
  match v with
  | .agg cs => copyK cs.toList some
  | v => some [v]
theorem cellsK_ok {v : Value} {cl : List Value} (h : cellsK v = some cl) : cellsOf v = cl := by
  cases v with
  | agg cs => exact Option.some.inj (copyK_some h)
  | _ => exact Option.some.inj h
def bxC (n : Nat) (o : Oper) (f : Fr) : Option (Nat × TypeId × List Value) :=
  match o.guard, o.dst, o.op with
  | none, some d, .box t x => (match ev f x with
    | some v => bif Nat.blt d n then (match cellsK v with
      | some cl => some (d, t, cl)
      | none => none) else none
    | none => none)
  | _, _, _ => none
theorem WL.bx (hst : St w0 T L w) {d : Nat} {t : TypeId} {cl : List Value} (h : bxC n o f = some (d, t, cl)) (k : ∀ b w', St w0 T ((b, .cells cl.toArray t (0, 0)) :: L) w' → WL P n ol rest K ((d, .pointer (some ⟨b, 0, none⟩)) :: f) w') : WL P n ol (o :: rest) K f w := by
  unfold bxC at h
  split at h
  · rename_i d' t' x hg hd ho
    split at h
    · rename_i v hx
      cases hn : Nat.blt d' n with
      | false => rw [hn] at h; cases h
      | true =>
        rw [hn] at h
        dsimp only [cond_true] at h
        split at h
        · rename_i cl' hcl
          simp only [Option.some.injEq, Prod.mk.injEq] at h
          obtain ⟨rfl, rfl, rfl⟩ := h
          exact WL.box hst ho (want_none hg) hd hn hx (cellsK_ok hcl) k
        · cases h
    · cases h
  · cases h
def alC (n : Nat) (o : Oper) : Option (Nat × TypeId) :=
  match o.guard, o.dst, o.op with
  | none, some d, .alloc t => bif Nat.blt d n then some (d, t) else none
  | _, _, _ => none
theorem WL.al (hst : St w0 T L w) {d : Nat} {t : TypeId} {z : Value} {cl : List Value} (hz : ∀ w, (zeroValue t).run P w = .ok z w) (h : alC n o = some (d, t)) (hc : cellsK z = some cl) (k : ∀ b w', St w0 T ((b, .cells cl.toArray t (0, 0)) :: L) w' → WL P n ol rest K ((d, .pointer (some ⟨b, 0, none⟩)) :: f) w') : WL P n ol (o :: rest) K f w := by
  unfold alC at h
  split at h
  · rename_i d' t' hg hd ho
    cases hn : Nat.blt d' n with
    | false => rw [hn] at h; cases h
    | true =>
      rw [hn] at h
      simp only [cond_true, Option.some.injEq, Prod.mk.injEq] at h
      obtain ⟨rfl, rfl⟩ := h
      exact WL.alloc hst hz ho (want_none hg) hd hn (cellsK_ok hc) k
  · cases h
end
/-- The cells of a result's variable, in a row. -/
def dtK (cs : List Value) (off sz : Nat) : Option (List Value) := dropK cs off fun l => takeK l sz some
theorem dtK_ok {cs vs : List Value} {off sz : Nat} (h : dtK cs off sz = some vs) : (cs.drop off).take sz = vs ∧ vs.length = sz := by
  obtain ⟨h1, h2⟩ := dropK_some h
  obtain ⟨h3, h4⟩ := takeK_some h1
  have e := Option.some.inj h3
  exact ⟨e, by rw [← e, List.length_take]; exact Nat.min_eq_left h4⟩
theorem resV.cellA {P : Program} {w0 w : World} {T : List Nat} {L : Hp} {tb : TT} {f : Fr} {a b sz : Nat} {t : TypeId} {k : TK} {cl vs : List Value} {e : TypeId} {fz : Nat × Nat} (htb : tb.Ok P) (hst : St w0 T L w) (i : Nat) (hl : lk f a = some (.pointer (some ⟨b, 0, none⟩))) (hi : nthL L i = some (b, .cells cl.toArray e fz)) (ht : tb.get t = some ⟨k, sz, true⟩) (hc : dtK cl 0 sz = some vs) : resV P f w (.cell a t) (.agg vs.toArray) := by
  obtain ⟨-, hz, hag⟩ := TT.get_ok htb ht
  obtain ⟨h1, h2⟩ := dtK_ok hc
  exact resV.cell hl (run_loadVarA hag hz (cells_of_heap (hst.own _ (nthL_mem hi)).1 h1 h2))
/-! regions in line -/
section
variable {P : Program} {tb : TT} {w0 w : World} {T : List Nat} {L : Hp} {n : Nat} {ol : List Oper} {act : List (Nat × Bool)} {K : Fr → World → Prop} {KQ : Fr → Prop} {C : World → Prop}
theorem WL.mono {l : List Oper} {K' : Fr → World → Prop} {f : Fr} (h : WL P n ol l K f w) (hk : ∀ f w, K f w → K' f w) : WL P n ol l K' f w := fun Q a ha hq => h Q a ha fun a' f' w' hg hh => hq a' f' w' hg (hk _ _ hh)
theorem WQ.mono {l : List Oper} {KQ' : Fr → Prop} {f : Fr} (h : WQ P n ol l C KQ f) (hk : ∀ f, KQ f → KQ' f) : WQ P n ol l C KQ' f := fun a ha => by
  refine (?_ : ∀ (l : List Oper) (a : Act), wpQuiet P _ C (fun a' => ∃ f', Good a' n f' ∧ KQ f') l a → wpQuiet P _ C (fun a' => ∃ f', Good a' n f' ∧ KQ' f') l a) l a (h a ha)
  intro l
  induction l with
  | nil =>
    rintro a ⟨f', hg, hh⟩
    exact ⟨f', hg, hk _ hh⟩
  | cons o r ih =>
    intro a ha
    unfold wpQuiet at ha ⊢
    split
    · rename_i hw
      rw [if_pos hw] at ha
      exact Oper.quiet_mono ih ha
    · rename_i hw
      rw [if_neg hw] at ha
      exact ih _ ha
theorem WC.sr {id : Nat} {l : List Oper} {y : Code} {Q : Kont} {f : Fr} (h : WL P n l l (fun f w => WC P n y Q f w) f w) : WC P n (.seq (.region id l.toArray false) y) Q f w :=
  WC.seq fun K hK => WC.region (h.mono fun f w hh => hK f w hh)
theorem WC.sq {id : Nat} {l : List Oper} {y : Code} {Q : Kont} {f : Fr} (hst : St w0 T L w) (hm : P.follows .mixedOrders = true) (hl : Region.lexB .any l.toArray = true) (h : WQ P n l l (fun w' => St w0 T L w') (fun f' => ∀ w', St w0 T L w' → WC P n y Q f' w') f) : WC P n (.seq (.region id l.toArray true) y) Q f w :=
  WC.seq fun K hK => WC.regionQ (fun w' => St w0 T L w') hm hl hst.drew (h.mono fun f' hh w' hw => hK f' w' (hh w' hw))
theorem WC.rr {id : Nat} {l : List Oper} {y : Code} {Q : Kont} {f f' : Fr} {S : Prop} (htb : tb.Ok P) (hst : St w0 T L w) (h : List Nat) (hr : runs tb n l L [] l.length l f h True = some ([], f', S)) (hS : S) (k : WC P n y Q f' w) : WC P n (.seq (.region id l.toArray false) y) Q f w :=
  WC.sr (WL.run htb l.length hst h hr hS (WL.nil k))
theorem WC.rq {id : Nat} {l : List Oper} {y : Code} {Q : Kont} {f f' : Fr} {S : Prop} (htb : tb.Ok P) (hst : St w0 T L w) (hm : P.follows .mixedOrders = true) (hl : Region.lexB .any l.toArray = true) (h : List Nat) (hr : runs tb n l L [] l.length l f h True = some ([], f', S)) (hS : S) (k : ∀ w', St w0 T L w' → WC P n y Q f' w') : WC P n (.seq (.region id l.toArray true) y) Q f w :=
  WC.sq hst hm hl (WQ.run htb l.length h hr hS (WQ.nil k))
/-! conditions read off -/
theorem WC.cD {c : Operand} {x y : Code} {p : Prop} [Decidable p] {Q : Kont} {f : Fr} (hc : ev f c = some (.bool (decide p))) (hx : p → WC P n x Q f w) (hy : ¬ p → WC P n y Q f w) : WC P n (.cond c x y) Q f w :=
  WC.cond hc (fun h => hx (of_decide_eq_true h)) (fun h => hy (of_decide_eq_false h))
theorem WC.cN {c : Operand} {x y : Code} {p : Prop} [Decidable p] {Q : Kont} {f : Fr} (hc : ev f c = some (.bool (!decide p))) (hx : ¬ p → WC P n x Q f w) (hy : p → WC P n y Q f w) : WC P n (.cond c x y) Q f w :=
  WC.cond hc (fun h => hx (of_decide_eq_false (by simpa using h))) (fun h => hy (of_decide_eq_true (by simpa using h)))
theorem u8_in (b : UInt8) : In64 (b.toNat : Int) := by have := b.toNat_lt; constructor <;> omega
theorem ndT {p : Prop} [Decidable p] (h : ¬ p) : (!decide p) = true := by simp [h]
theorem ndF {p : Prop} [Decidable p] (h : p) : (!decide p) = false := by simp [h]
theorem bf : (∀ (p : Prop) [Decidable p], (decide p = true) = p) ∧ (∀ (p : Prop) [Decidable p], (decide p = false) = ¬ p) ∧ (∀ b : Bool, ((!b) = true) = (b = false)) ∧ (∀ b : Bool, ((!b) = false) = (b = true)) ∧ (∀ a b : Bool, ((a && b) = true) = (a = true ∧ b = true)) ∧ (∀ a b : Bool, ((a || b) = false) = (a = false ∧ b = false)) :=
  ⟨fun _ _ => by simp, fun _ _ => by simp, fun b => by simp, fun b => by simp, fun a b => by simp, fun a b => by simp⟩
end
end Go.Proofs.Ytlmcekfdlgkffaa
namespace Go.Proofs.Ytlmcekfdlgkffaa
open Go Go.RowKit
set_option linter.unusedVariables false
set_option linter.unusedSimpArgs false

theorem St.takes1 (w : World) (L1 : Hp) (h1 : ∀ p, p ∈ L1 → w.heap[p.1]? = some p.2) (hd : (L1.map (·.1)).Nodup) : St w (L1.map (·.1)) (L1 ++ []) w := St.lent w L1 h1 hd
/-- A slice that is ours, with what its elements hold. -/
def OwnN {α : Type} (F : Enc α) (own : α → Hp → Prop) (e : TypeId) (v : Value) (xs : List α) (L : Hp) : Prop := ∃ L0 Lb, L = L0 ++ Lb ∧ OwnF F e v xs L0 ∧ Bag own xs Lb
section
variable {α : Type} {F : Enc α} {own : α → Hp → Prop} {e : TypeId} {v : Value} {xs ys : List α} {L L0 Lb R : Hp} {w0 w : World} {T : List Nat} {A : Option Addr} {n c : Nat}
theorem OwnN.nil (F : Enc α) (own : α → Hp → Prop) (e : TypeId) : OwnN F own e (.slice none 0 0) [] [] := ⟨[], [], rfl, OwnF.nil F e, Bag.nil⟩
theorem OwnN.nilA (F : Enc α) (own : α → Hp → Prop) (e : TypeId) (A : Option Addr) : OwnN F own e (.slice A 0 0) [] [] := ⟨[], [], rfl, OwnF.nilA F e A, Bag.nil⟩
theorem OwnN.shape (h : OwnN F own e v xs L) : ∃ A c, v = .slice A xs.length c := by
  obtain ⟨L0, Lb, rfl, h1, h2⟩ := h
  exact h1.shape
theorem OwnN.len_ (h : OwnN F own e (.slice A n c) xs L) : xs.length = n := by
  obtain ⟨L0, Lb, rfl, h1, h2⟩ := h
  exact h1.len_
theorem OwnN.cap (h : OwnN F own e (.slice A n c) xs L) : n ≤ c := by
  obtain ⟨L0, Lb, rfl, h1, h2⟩ := h
  exact h1.cap
theorem OwnN.eqOf (_ : OwnN F own e v ys L) (h : ys = xs) : ys = xs := h
theorem OwnN.ok {ok : World → α → Prop} (h : OwnN F own e (.slice A n c) xs L) (hh : ∀ p, p ∈ L → w.heap[p.1]? = some p.2) (hk : ∀ x Li, x ∈ xs → own x Li → (∀ p, p ∈ Li → w.heap[p.1]? = some p.2) → ok w x) : SlN F ok w A n xs := by
  obtain ⟨L0, Lb, rfl, h1, h2⟩ := h
  refine ⟨SlF.ofOwn h1 fun p hp => hh p (List.mem_append_left _ hp), fun x hx => ?_⟩
  obtain ⟨Li, h3, h4⟩ := h2.mem x hx
  exact hk x Li hx h3 fun p hp => hh p (List.mem_append_right _ (h4 p hp))
theorem OwnN.sl (h : OwnN F own e (.slice A n c) xs L) (hh : ∀ p, p ∈ L → w.heap[p.1]? = some p.2) : SlF F w A n xs := by
  obtain ⟨L0, Lb, rfl, h1, h2⟩ := h
  exact SlF.ofOwn h1 fun p hp => hh p (List.mem_append_left _ hp)
theorem OwnN.fold (hs : St w0 T (L0 ++ (Lb ++ R)) w) (o : OwnF F e v xs L0) (b : Bag own xs Lb) : ∃ L, St w0 T (L ++ R) w ∧ OwnN F own e v xs L :=
  ⟨L0 ++ Lb, by simpa only [List.append_assoc] using hs, L0, Lb, rfl, o, b⟩
theorem OwnN.open_ (hs : St w0 T (L ++ R) w) (h : OwnN F own e v xs L) : ∃ L0 Lb, St w0 T (L0 ++ (Lb ++ R)) w ∧ OwnF F e v xs L0 ∧ Bag own xs Lb := by
  obtain ⟨L0, Lb, rfl, o, b⟩ := h
  exact ⟨L0, Lb, by simpa only [List.append_assoc] using hs, o, b⟩
/-- An element's blocks taken out, and put back. -/
theorem Bag.out {i : Nat} (hs : St w0 T (Lb ++ R) w) (b : Bag own xs Lb) (hi : i < xs.length) : ∃ La Li Lc, St w0 T (Li ++ ((La ++ Lc) ++ R)) w ∧ own (gat F xs i) Li ∧ (∀ {w' : World} {T' : List Nat} {R' : Hp} (x' : α) (Li' : Hp), St w0 T' (Li' ++ ((La ++ Lc) ++ R')) w' → own x' Li' → ∃ Lb', St w0 T' (Lb' ++ R') w' ∧ Bag own (xs.set i x') Lb') := by
  obtain ⟨La, Li, Lc, rfl, h1, h2⟩ := Bag.nth (F := F) b hi
  refine ⟨La, Li, Lc, hs.perm ?_, h1, fun x' Li' hs' hx => ⟨_, hs'.perm ?_, h2 x' Li' hx⟩⟩
  · simp only [List.append_assoc]
    exact (List.perm_append_comm_assoc _ _ _)
  · simp only [List.append_assoc]
    exact (List.perm_append_comm_assoc _ _ _)
/-- An element of a bag gives way to another. -/
theorem Bag.replace {i : Nat} {Lr : Hp} {r : α} (hs : St w0 T (Lb ++ (Lr ++ R)) w) (b : Bag own xs Lb) (hi : i < xs.length) (hr : own r Lr) : ∃ Lb', St w0 T (Lb' ++ R) w ∧ Bag own (xs.set i r) Lb' := by
  obtain ⟨La, Li, Lc, rfl, h1, h2⟩ := Bag.nth (F := ⟨1, fun _ => [.bool true], r, fun _ => rfl, fun _ _ h => by simp at h; subst h; rfl, by decide⟩) b hi
  refine ⟨La ++ (Lr ++ Lc), St.perm (hs.drop (L' := La ++ (Lc ++ (Lr ++ R))) ?_) ?_, h2 r Lr hr⟩
  · simp only [List.append_assoc]
    exact List.Sublist.append_left (List.sublist_append_right Li _) La
  · simp only [List.append_assoc]
    exact List.Perm.append_left La (List.perm_append_comm_assoc _ _ _)
theorem Bag.same : ∀ {xs : List α} {i : Nat} {Lb : Hp} {x : α}, Bag own xs Lb → (∀ y L, xs[i]? = some y → own y L → own x L) → Bag own (xs.set i x) Lb
  | [], _, _, _, b, _ => b
  | y :: r, 0, _, x, b, h => by
    obtain ⟨L1, L2, rfl, h1, h2⟩ := b
    exact ⟨L1, L2, rfl, h y L1 rfl h1, h2⟩
  | y :: r, i + 1, _, x, b, h => by
    obtain ⟨L1, L2, rfl, h1, h2⟩ := b
    exact ⟨L1, L2, rfl, h1, Bag.same h2 fun z L hz hl => h z L (by simpa using hz) hl⟩
theorem Bag.dflts {n : Nat} {d : α} (h : own d []) : Bag own (List.replicate n d) [] := by
  induction n with
  | zero => exact rfl
  | succ n ih => exact ⟨[], [], rfl, h, ih⟩
/-- A row of new elements that hold nothing. -/
theorem OwnN.new {n : Nat} {d : α} (hs : St w0 T (L ++ R) w) (o : OwnF F e v (List.replicate n d) L) (h : own d []) : ∃ L', St w0 T (L' ++ R) w ∧ OwnN F own e v (List.replicate n d) L' :=
  ⟨L ++ [], by simpa using hs, L, [], rfl, o, Bag.dflts h⟩
theorem OwnN.fresh {xs : List α} (hs : St w0 T (L ++ R) w) (o : OwnF F e v xs L) (h : Bag own xs []) : ∃ L', St w0 T (L' ++ R) w ∧ OwnN F own e v xs L' :=
  ⟨L ++ [], by simpa using hs, L, [], rfl, o, h⟩
/-- The cells of a row tell nothing of what hangs on them. -/
theorem OwnF.recast (h : OwnF F e v xs L) (hl : ys.length = xs.length) (hr : rows F ys = rows F xs) : OwnF F e v ys L := by
  unfold OwnF; rw [hl, hr]; exact h
end
theorem rows_set_eq {α : Type} {F : Enc α} : ∀ {xs : List α} {i : Nat} {x : α}, i < xs.length → F.enc x = F.enc (gat F xs i) → rows F (xs.set i x) = rows F xs
  | [], _, _, h, _ => by simp at h
  | y :: r, 0, x, _, h => by
    have : gat F (y :: r) 0 = y := rfl
    rw [this] at h
    simp only [List.set_cons_zero, rows_cons, h]
  | y :: r, i + 1, x, hi, h => by
    have e : gat F (y :: r) (i + 1) = gat F r i := by simp [gat]
    rw [e] at h
    simp only [List.set_cons_succ, rows_cons, rows_set_eq (xs := r) (by simpa using hi) h]
/-- The head of a slice with its data, by what is known of it. -/
abbrev SlD.of {α : Type} {F : Enc α} {e : TypeId} {A : Option Addr} {n c : Nat} {xs : List α} {L : Hp} (_ : OwnF F e (.slice A n c) xs L) : SlD α := ⟨A, n, c, xs⟩
abbrev SlD.ofN {α : Type} {F : Enc α} {own : α → Hp → Prop} {e : TypeId} {A : Option Addr} {n c : Nat} {xs : List α} {L : Hp} (_ : OwnN F own e (.slice A n c) xs L) : SlD α := ⟨A, n, c, xs⟩
abbrev SlD.rd {α : Type} {F : Enc α} {w : World} {A : Option Addr} {n c : Nat} {xs : List α} (_ : SlF F w A n xs) (_ : n ≤ c) : SlD α := ⟨A, n, c, xs⟩
abbrev SlD.rdN {α : Type} {F : Enc α} {ok : World → α → Prop} {w : World} {A : Option Addr} {n c : Nat} {xs : List α} (_ : SlN F ok w A n xs) (_ : n ≤ c) : SlD α := ⟨A, n, c, xs⟩
theorem rows_set_enc {α : Type} {F : Enc α} {xs : List α} {i : Nat} {x y : α} (h : F.enc x = F.enc y) : rows F (xs.set i x) = rows F (xs.set i y) := by
  unfold rows
  induction xs generalizing i with
  | nil => rfl
  | cons z r ih =>
    cases i with
    | zero => simp only [List.set_cons_zero, List.flatMap_cons, h]
    | succ i => simp only [List.set_cons_succ, List.flatMap_cons, ih]
theorem set_at {α : Type} {ys : List α} {d r : α} {i m : Nat} (hl : ys.length = i) (hm : i < m) : (ys ++ List.replicate (m - i) d).set i r = (ys ++ [r]) ++ List.replicate (m - (i + 1)) d := by
  obtain ⟨q, hq⟩ : ∃ q, m - i = q + 1 := ⟨m - i - 1, by omega⟩
  have hq2 : m - (i + 1) = q := by omega
  rw [hq, hq2, List.replicate_succ, List.set_append_right _ _ (by omega), hl, Nat.sub_self, List.set_cons_zero, List.append_assoc]
  rfl
/-! how much there is -/
def tots {α : Type} (f : α → Nat) (l : List α) : Nat := l.length + (l.map f).sum
theorem le_sum : ∀ {l : List Nat} {x : Nat}, x ∈ l → x ≤ l.sum
  | [], _, h => by cases h
  | y :: r, x, h => by
    rw [List.sum_cons]
    rcases List.mem_cons.1 h with rfl | h
    · omega
    · have := le_sum h; omega
theorem tots_mem {α : Type} {f : α → Nat} {l : List α} {x : α} (h : x ∈ l) : f x ≤ tots f l := by
  have : f x ≤ (l.map f).sum := le_sum (List.mem_map_of_mem h)
  unfold tots; omega
theorem tots_map {α β : Type} {f : β → Nat} {g : α → β} (l : List α) : tots f (l.map g) = l.length + (l.map fun x => f (g x)).sum := by
  simp only [tots, List.length_map, List.map_map]; rfl
theorem tots_len {α : Type} (f : α → Nat) (l : List α) : l.length ≤ tots f l := Nat.le_add_right _ _
theorem sum_take {α : Type} {F : Enc α} {f : α → Nat} {l : List α} {i : Nat} (h : i < l.length) : ((l.take (i + 1)).map f).sum = ((l.take i).map f).sum + f (gat F l i) := by
  rw [List.take_add_one, gat_get (F := F) h, List.map_append, List.sum_append]; simp
theorem sum_take_le {α : Type} {f : α → Nat} (l : List α) (i : Nat) : ((l.take i).map f).sum ≤ (l.map f).sum := by
  conv => rhs; rw [← List.take_append_drop i l, List.map_append, List.sum_append]
  exact Nat.le_add_right _ _
/-! marks -/
section
variable {α : Type} {mk : Int → α → α} {c : α → Int} {F : Enc α}
def cnts (c : α → Int) : List α → Int
  | [] => 0
  | x :: r => c x + cnts c r
def mrks (mk : Int → α → α) (c : α → Int) : Int → List α → List α
  | _, [] => []
  | k, x :: r => mk k x :: mrks mk c (k + c x) r
theorem mrks_len : ∀ {xs : List α} {k : Int}, (mrks mk c k xs).length = xs.length
  | [], _ => rfl
  | x :: r, k => by simp [mrks, mrks_len (xs := r)]
theorem cnts_append : ∀ {xs ys : List α}, cnts c (xs ++ ys) = cnts c xs + cnts c ys
  | [], ys => by simp [cnts]
  | x :: r, ys => by simp only [List.cons_append, cnts, cnts_append (xs := r)]; omega
theorem mrks_append : ∀ {xs ys : List α} {k : Int}, mrks mk c k (xs ++ ys) = mrks mk c k xs ++ mrks mk c (k + cnts c xs) ys
  | [], ys, k => by simp [mrks, cnts]
  | x :: r, ys, k => by
    simp only [List.cons_append, mrks, cnts, mrks_append (xs := r)]
    rw [show k + c x + cnts c r = k + (c x + cnts c r) by omega]
theorem cnts_take {xs : List α} {i : Nat} (h : i < xs.length) : cnts c (xs.take (i + 1)) = cnts c (xs.take i) + c (gat F xs i) := by
  rw [List.take_add_one, gat_get (F := F) h, cnts_append]; simp [cnts]
theorem cnts_nonneg (hc : ∀ x, 0 ≤ c x) : ∀ xs : List α, 0 ≤ cnts c xs
  | [] => Int.le_refl _
  | x :: r => by have := hc x; have := cnts_nonneg hc r; simp only [cnts]; omega
theorem cnts_take_le (hc : ∀ x, 0 ≤ c x) (xs : List α) (i : Nat) : cnts c (xs.take i) ≤ cnts c xs := by
  have h := cnts_append (c := c) (xs := xs.take i) (ys := xs.drop i)
  rw [List.take_append_drop] at h
  have := cnts_nonneg hc (xs.drop i)
  omega
theorem cnts_le {β : Type} {f : β → Nat} {g : α → β} (h : ∀ x, c x ≤ 64 + 64 * (f (g x) : Int)) : ∀ xs : List α, cnts c xs ≤ 64 * (tots f (xs.map g) : Int)
  | [] => by simp [cnts, tots]
  | x :: r => by
    have h1 := h x
    have h2 := cnts_le h r
    simp only [tots, List.map_cons, List.sum_cons, List.length_cons] at h2 ⊢
    simp only [cnts]
    omega
/-- Marked up to i. -/
theorem mrks_all {P : α → Prop} (hm : ∀ k x, P x → P (mk k x)) : ∀ {k : Int} {xs : List α}, (∀ x, x ∈ xs → P x) → ∀ y, y ∈ mrks mk c k xs → P y
  | _, [], _, y, h => by cases h
  | k, x :: r, h, y, hy => by
    rcases List.mem_cons.1 hy with rfl | hy
    · exact hm _ _ (h x List.mem_cons_self)
    · exact mrks_all hm (fun z hz => h z (List.mem_cons_of_mem _ hz)) y hy
def mrkTo (mk : Int → α → α) (c : α → Int) (k : Int) (xs : List α) (i : Nat) : List α := mrks mk c k (xs.take i) ++ xs.drop i
theorem mrkTo_zero {xs : List α} {k : Int} : mrkTo mk c k xs 0 = xs := by simp [mrkTo, mrks]
theorem mrkTo_full {xs : List α} {k : Int} {i : Nat} (h : xs.length ≤ i) : mrkTo mk c k xs i = mrks mk c k xs := by simp [mrkTo, List.take_of_length_le h, List.drop_of_length_le h]
theorem mrkTo_len {xs : List α} {k : Int} {i : Nat} (h : i ≤ xs.length) : (mrkTo mk c k xs i).length = xs.length := by simp [mrkTo, mrks_len]; omega
theorem mrkTo_gat {xs : List α} {k : Int} {i : Nat} (h : i < xs.length) : gat F (mrkTo mk c k xs i) i = gat F xs i := by
  have hl : (mrks mk c k (xs.take i)).length = i := by rw [mrks_len, List.length_take]; omega
  unfold mrkTo gat
  rw [List.getD_eq_getElem?_getD, List.getElem?_append_right (by omega), hl, Nat.sub_self, List.getElem?_drop, Nat.add_zero, List.getD_eq_getElem?_getD]
theorem mrkTo_set {xs : List α} {k : Int} {i : Nat} {x : α} (h : i < xs.length) (hx : x = mk (k + cnts c (xs.take i)) (gat F xs i)) : (mrkTo mk c k xs i).set i x = mrkTo mk c k xs (i + 1) := by
  have hl : (mrks mk c k (xs.take i)).length = i := by rw [mrks_len, List.length_take]; omega
  unfold mrkTo
  rw [List.set_append_right _ _ (by omega), hl, Nat.sub_self, List.drop_eq_getElem_cons h, List.set_cons_zero, List.take_add_one, gat_get (F := F) h, mrks_append, hx]
  simp [mrks, List.append_assoc]
theorem mrks_gat : ∀ {xs : List α} {k : Int} {i : Nat}, i < xs.length → gat F (mrks mk c k xs) i = mk (k + cnts c (xs.take i)) (gat F xs i)
  | [], _, _, h => by simp at h
  | x :: r, k, 0, _ => by simp [mrks, gat, cnts]
  | x :: r, k, i + 1, h => by
    have := mrks_gat (xs := r) (k := k + c x) (i := i) (by simpa using h)
    simp only [mrks, List.take_succ_cons, cnts]
    have e : gat F (mk k x :: mrks mk c (k + c x) r) (i + 1) = gat F (mrks mk c (k + c x) r) i := by simp [gat]
    have e2 : gat F (x :: r) (i + 1) = gat F r i := by simp [gat]
    rw [e, e2, this]
    congr 1
    omega
theorem mrks_cnts (hc : ∀ k x, c (mk k x) = c x) : ∀ {xs : List α} {k : Int}, cnts c (mrks mk c k xs) = cnts c xs
  | [], _ => rfl
  | x :: r, k => by simp only [mrks, cnts, hc, mrks_cnts hc (xs := r)]
theorem mrks_take : ∀ {xs : List α} {k : Int} {i : Nat}, (mrks mk c k xs).take i = mrks mk c k (xs.take i)
  | [], _, i => by simp [mrks]
  | x :: r, k, 0 => by simp [mrks]
  | x :: r, k, i + 1 => by simp [mrks, mrks_take (xs := r)]
theorem mem_mrks : ∀ {xs : List α} {k : Int} {y : α}, y ∈ mrks mk c k xs → ∃ q x, x ∈ xs ∧ y = mk q x
  | [], _, _, h => by cases h
  | x :: r, k, y, h => by
    rcases List.mem_cons.1 h with rfl | h
    · exact ⟨k, x, List.mem_cons_self, rfl⟩
    · obtain ⟨q, z, hz, he⟩ := mem_mrks h
      exact ⟨q, z, List.mem_cons_of_mem _ hz, he⟩
end
theorem Run.quoB {P : Program} {w : World} {o : Oper} {f : Fr} {t t' : TypeId} {x y : Operand} {a : UInt8} (k : Nat) (ho : o.op = .binOp .quo t x y t') (hx : ev f x = some (.int .u8 a.toNat)) (hy : ev f y = some (.int .u8 (k : Int))) (h0 : 0 < k) (h1 : k ≤ 255) : Run P o f w (.value (.int .u8 ((UInt8.ofNat (a.toNat / k)).toNat))) w := fun ρ hρ => by
  have h3 := a.toNat_lt
  have h4 : a.toNat / k ≤ a.toNat := Nat.div_le_self _ _
  have hk0 : k ≠ 0 := by omega
  have e : IntKind.u8.wrap ((a.toNat : Int).tdiv (k : Int)) = ((UInt8.ofNat (a.toNat / k)).toNat : Int) := by
    rw [UInt8.toNat_ofNat', Nat.mod_eq_of_lt (by omega), Int.tdiv_eq_ediv_of_nonneg (by omega), ← Int.natCast_ediv, wrap_u8, ub_toNat]
    generalize a.toNat / k = m at h4 ⊢
    omega
  rw [← e]
  simp [execOp, ho, hρ _ _ hx, hρ _ _ hy, eqGuard, binOp, Op.intDiv, hk0]
theorem u8_div (a : UInt8) (k : Nat) : (UInt8.ofNat (a.toNat / k)).toNat = a.toNat / k := by
  have h3 := a.toNat_lt
  have h4 : a.toNat / k ≤ a.toNat := Nat.div_le_self _ _
  rw [UInt8.toNat_ofNat', Nat.mod_eq_of_lt (by omega)]
theorem u8_mod (a : UInt8) (k : Nat) : (UInt8.ofNat (a.toNat % k)).toNat = a.toNat % k := by
  have h3 := a.toNat_lt
  have h4 : a.toNat % k ≤ a.toNat := Nat.mod_le _ _
  rw [UInt8.toNat_ofNat', Nat.mod_eq_of_lt (by omega)]
theorem SlN.nth' {α : Type} {F : Enc α} {ok : World → α → Prop} {w : World} {A : Option Addr} {n : Nat} {xs : List α} {i : Nat} (h : SlN F ok w A n xs) (hi : i < n) : ok w (gat F xs i) := h.nth hi
theorem gat_dat {α β : Type} {F : Enc α} {f : α → β} {xs ys : List α} {i : Nat} (h : xs.map f = ys.map f) (hi : i < xs.length) : f (gat F xs i) = f (gat F ys i) := by
  have hl := congrArg List.length h
  simp only [List.length_map] at hl
  have h1 := congrArg (fun l => l[i]?) h
  simp only [List.getElem?_map, gat_get (F := F) hi, gat_get (F := F) (show i < ys.length by omega), Option.map_some] at h1
  exact Option.some.inj h1
theorem map_take_succ {α β : Type} {F : Enc α} {f : α → β} {xs : List α} {i : Nat} (h : i < xs.length) : (xs.take (i + 1)).map f = (xs.take i).map f ++ [f (gat F xs i)] := by
  rw [List.take_add_one, gat_get (F := F) h, List.map_append]; rfl
/-- From here on more of the world is held. -/
theorem WH.strS {P : Program} {n : Nat} {ol : List Oper} {K : Fr → World → Prop} {f : Fr} {w0 w : World} {T : List Nat} {L : Hp} {S : World → Prop} {fuel : Nat} {listed : List Bool} (_hs : St w0 T L w) (hi : ∀ w', St w0 T L w' → S w')
    (h : WH P n ol (fun w' => St w0 T L w') fuel listed K f w) : WH P n ol S fuel listed K f w := fun Q a hp ha hk => by
  have key : ∀ (fuel : Nat) (listed : Array Bool) (a : Act) (w : World), wpAnyH P .any ol.toArray Q (fun w' => St w0 T L w') fuel listed a w → wpAnyH P .any ol.toArray Q S fuel listed a w := by
    intro fuel
    induction fuel with
    | zero => intro listed a w h; exact h
    | succ fuel ih => intro listed a w h; exact ⟨h.1, fun i hi' => wpOp_mono (fun a' w' h' => ⟨hi _ h'.1, ih _ _ _ h'.2⟩) (h.2 i hi')⟩
  exact key _ _ _ _ (h Q a hp ha hk)
end Go.Proofs.Ytlmcekfdlgkffaa
namespace Go.Proofs.Ytlmcekfdlgkffaa
open Go Go.RowKit
set_option linter.unusedVariables false
set_option linter.unusedSimpArgs false
section
variable {α : Type} {F : Enc α} {P : Program} {w0 w : World} {T : List Nat} {n : Nat} {ol : List Oper} {o : Oper} {rest : List Oper} {f : Fr} {d : Nat} {K : Fr → World → Prop}
theorem firstCells_any {sz k k' c c' : Nat} {A : Option Addr} {us : Array Value} (h : (Builtin.firstCells sz k (.slice A k c)).run P w = .ok us w) : (Builtin.firstCells sz k (.slice A k' c')).run P w = .ok us w := by
  cases A <;> exact h
/-- Elements go into a slice of ours, from lo on. -/
theorem WL.copyF {L1 R : Hp} {xs ys : List α} {A A' B : Option Addr} {m c lo q k' c' cb : Nat} {e t t2 : TypeId} {i : TypeInfo} {x y : Operand} (hst : St w0 T (L1 ++ R) w) (hown : OwnF F e (.slice A m c) xs L1) (hs : SlF F w A' k' ys) (ht : P.underlying t = some (.slice e)) (ht2 : P.underlying t2 = some (.slice e)) (hi : P.info? e = some i) (hs1 : Nat.beq i.size F.sz = true)
    (ho : o.op = .call { callee := .builtin .copy, args := #[x, y], argTypes := #[t, t2] }) (hw : want ol o f = some true) (hd : o.dst = some d) (hn : Nat.blt d n = true) (hx : ev f x = some (.slice B q cb)) (hy : ev f y = some (.slice A' k' c')) (hB : B = cutA A lo F.sz c ∨ (lo = 0 ∧ B = A)) (hlo : lo + q ≤ m) (h0q : 0 < q)
    (k : ∀ L1' w', St w0 T (L1' ++ R) w' → OwnF F e (.slice A m c) (xs.take lo ++ ys.take (min k' q) ++ xs.drop (lo + min k' q)) L1' → WL P n ol rest K ((d, .int .i64 (min k' q : Nat)) :: f) w') : WL P n ol (o :: rest) K f w := by
  have hs1' := Nat.eq_of_beq_eq_true hs1
  have hl := hown.len_
  have hk := hs.len
  have hyl : (ys.take (min k' q)).length = min k' q := by rw [List.length_take]; omega
  obtain ⟨g, pre, cl, a, b, rfl, rfl, hfz, hle, hupd⟩ := hown.updR (i := lo) (ys := ys.take (min k' q)) (by omega) (by rw [hyl]; omega)
  have hc := hown.cap
  have hrl : (rows F (ys.take (min k' q))).length = min k' q * F.sz := by rw [rows_len, hyl]
  rw [hyl] at hle hupd
  have e0 : (lo + min k' q) * F.sz = lo * F.sz + min k' q * F.sz := Nat.add_mul _ _ _
  have hpl : (pre ++ cl).length = pre.length + cl.length := List.length_append
  obtain ⟨w', hr, hs'⟩ := hst.stored (P := P) 0 (off := pre.length + lo * F.sz) (vs := rows F (ys.take (min k' q))) rfl rows_one (by rw [hrl]; omega) (by rcases hfz with h | h <;> omega)
  rw [splice_pre] at hs'
  have hcut := hs.cutH (hi := min k' q) (c := k') ⟨by omega, by omega, by omega⟩
  have hcut' : SlF F w A' (min k' q) (ys.take (min k' q)) := by
    by_cases h0 : min k' q = 0
    · rw [h0] at hcut ⊢
      rw [List.take_zero]
      exact SlF.nil _ _
    · have e3 : cutA A' 0 F.sz k' = A' := by
        unfold cutA
        rw [if_neg (by omega)]
        cases A' with
        | none => rfl
        | some q => simp [Addr.add]
      rwa [e3] at hcut
  have hsrc := (SlF.src (P := P) (c := c') hcut' ht2).cells
  rw [hyl] at hsrc
  have e2 : B = some ⟨g, pre.length + lo * F.sz, none⟩ := by
    rcases hB with rfl | ⟨rfl, rfl⟩
    · unfold cutA
      rw [if_neg (by omega)]
      simp only [Option.map_some, addr_at]
    · simp
  subst e2
  refine WL.val (w' := w') (v := .int .i64 (min k' q : Nat)) hw hd hn (fun ρ hρ => ?_) (k [(g, .cells (pre ++ (cl.take (lo * F.sz) ++ rows F (ys.take (min k' q)) ++ cl.drop (lo * F.sz + (rows F (ys.take (min k' q))).length))).toArray e (a, b))] w' hs' ?_)
  · have hmin : Nat.min k' q = min k' q := rfl
    simp [execOp, ho, hρ _ _ hx, hρ _ _ hy, resolve, invoke, builtin, Builtin.copy_, run_underlying ht, Builtin.lenOf, sizeOf, typeInfo, hi, hs1', hmin, firstCells_any hsrc, hr, goInt]
  · have := hupd _ (by rw [e0])
    rw [hrl]
    exact this
end
section
variable {P : Program} {w : World} {o : Oper} {f : Fr} {t t' : TypeId} {x y : Operand} {k : IntKind}
theorem wrapU {a : Int} (n : Nat) (h : a = (n : Int)) (hn : n < 18446744073709551616) : IntKind.u64.wrap a = (n : Int) := by
  subst h
  simp [IntKind.wrap, IntKind.bits, IntKind.signed]
  omega
/-- The low half of a word. -/
theorem Run.maskU (n : Nat) (ho : o.op = .binOp .and t x y t') (hx : ev f x = some (.int .u64 (n : Int))) (hy : ev f y = some (.int .u64 4294967295)) (hn : n < 4294967296) : Run P o f w (.value (.int .u64 (n : Int))) w := fun ρ hρ => by
  have e : (BitVec.ofInt 64 (n : Int) &&& BitVec.ofInt 64 4294967295).toNat = n := by
    rw [BitVec.toNat_and, BitVec.toNat_ofInt, BitVec.toNat_ofInt]
    have h1 : ((n : Int) % ((2 ^ 64 : Nat) : Int)).toNat = n := by omega
    have h2 : ((4294967295 : Int) % ((2 ^ 64 : Nat) : Int)).toNat = 2 ^ 32 - 1 := by decide
    rw [h1, h2, Nat.and_two_pow_sub_one_eq_mod]
    omega
  have e2 := wrapU (a := ((BitVec.ofInt 64 (n : Int) &&& BitVec.ofInt 64 4294967295).toNat : Int)) n (by rw [e]) (by omega)
  simp [execOp, ho, hρ _ _ hx, hρ _ _ hy, eqGuard, binOp, Op.intBits]
  exact e2
theorem Run.shrU (n m : Nat) {b : Int} (ho : o.op = .binOp .shr t x y t') (hx : ev f x = some (.int .u64 (n : Int))) (hy : ev f y = some (.int k b)) (h0 : 0 ≤ b) (h1 : b ≤ 63) (hm : n / 2 ^ b.toNat = m) : Run P o f w (.value (.int .u64 (m : Int))) w := fun ρ hρ => by
  have e : Min.min b.toNat 64 = b.toNat := by omega
  have h2 : ¬ b < 0 := by omega
  have e4 : (n : Int) / 2 ^ b.toNat = (m : Int) := by rw [← hm]; simp
  have e3 : (n : Int).fdiv (2 ^ b.toNat) = (m : Int) := by
    rw [Int.fdiv_eq_ediv_of_nonneg _ (by exact Int.le_of_lt (Int.pow_pos (by decide))), e4]
  simp [execOp, ho, hρ _ _ hx, hρ _ _ hy, eqGuard, binOp, Op.shift, IntKind.bits, e, h2, e3, e4]
end
/-! a record behind a pointer -/
section
variable {w0 w w' : World} {T : List Nat} {R L1 L2 : Hp} {b : Nat} {o o' : Obj}
theorem St.takeP (w : World) (b : Nat) (o : Obj) (L1 : Hp) (hb : w.heap[b]? = some o) (h1 : ∀ p, p ∈ L1 → w.heap[p.1]? = some p.2) (hd : (b :: L1.map (·.1)).Nodup) : St w (b :: L1.map (·.1)) ((b, o) :: (L1 ++ [])) w := by
  have h := St.take w ((b, o) :: L1) (fun p hp => by
    rcases List.mem_cons.1 hp with rfl | hp
    · exact hb
    · exact h1 p hp) hd
  rw [List.append_nil]; exact h
theorem St.keepP (h : St w0 T ((b, o) :: (L1 ++ R)) w) : St w0 T ([(b, o)] ++ L1) w := h.drop (List.Sublist.cons_cons _ (List.sublist_append_left _ _))
theorem St.nodupP (h : St w0 T ((b, o) :: (L1 ++ R)) w) : (b :: L1.map (·.1)).Nodup := St.nodupL (L1 := (b, o) :: L1) (R := R) h
theorem St.lendP (h : St w0 T ((b, o) :: (L1 ++ R)) w) (h2 : St w (b :: L1.map (·.1)) ([(b, o')] ++ L2) w') : St w0 T ((b, o') :: (L2 ++ R)) w' := St.lend (A := (b, o) :: L1) (C := R) h h2
theorem St.headP (h : St w0 T ((b, o) :: (L1 ++ R)) w) : w.heap[b]? = some o := (h.own (b, o) List.mem_cons_self).1
theorem St.ownP (h : St w0 T ((b, o) :: (L1 ++ R)) w) : ∀ p, p ∈ L1 → w.heap[p.1]? = some p.2 := fun p hp => (h.own p (List.mem_cons_of_mem _ (List.mem_append_left _ hp))).1
theorem St.sepP {α : Type} {F : Enc α} {A : Option Addr} {n : Nat} {xs : List α} (h : St w0 [] ((b, o) :: (L1 ++ R)) w) (f : SlF F w0 A n xs) : 0 < n → (adr A).block ∉ b :: L1.map (·.1) := St.sep (L1 := (b, o) :: L1) (R := R) h f
theorem St.sepTP {α : Type} {F : Enc α} {A : Option Addr} {n : Nat} {xs : List α} (h : St w0 T ((b, o) :: (L1 ++ R)) w) (f : SlF F w0 A n xs) (s : 0 < n → (adr A).block ∉ T) : 0 < n → (adr A).block ∉ b :: L1.map (·.1) := St.sepT (L1 := (b, o) :: L1) (R := R) h f s
end
/-- An element more in a bag. -/
theorem Bag.put {α : Type} {own : α → Hp → Prop} {xs : List α} {x : α} {La Lb R : Hp} {w0 w : World} {T : List Nat} (hs : St w0 T (La ++ (Lb ++ R)) w) (b : Bag own xs La) (o : own x Lb) : ∃ L, St w0 T (L ++ R) w ∧ Bag own (xs ++ [x]) L := ⟨La ++ Lb, by rw [List.append_assoc]; exact hs, b.snoc o⟩
/-! the end of a slice of ours -/
section
variable {α : Type} {F : Enc α} {own : α → Hp → Prop} {e : TypeId} {xs : List α} {L R : Hp} {A : Option Addr} {n c k : Nat} {w0 w : World} {T : List Nat}
theorem OwnF.dropE (h : OwnF F e (.slice A n c) xs L) (hk : k ≤ n) : ∃ L', OwnF F e (.slice (cutA A k F.sz c) (n - k) (c - k)) (xs.drop k) L' ∧ L'.Sublist L := by
  have hl := h.len_
  rcases h.2 with ⟨⟨A', hv⟩, h0, rfl⟩ | ⟨g, cap, o, pre, cl, fz, hv, rfl, hn, hc, hcl, ht, hfz, ho⟩
  · cases hv
    obtain rfl : k = 0 := by omega
    have e1 : xs = [] := List.eq_nil_of_length_eq_zero (by omega)
    subst e1
    exact ⟨[], by simpa [cutA] using OwnF.nilA F e A, List.Sublist.refl _⟩
  · cases hv
    by_cases hkc : c = k
    · have e1 : xs.drop k = [] := List.drop_of_length_le (by omega)
      rw [e1, show xs.length - k = 0 by omega, show c - k = 0 by omega]
      exact ⟨[], OwnF.nilA F e _, List.nil_sublist _⟩
    · have e2 : cutA (some ⟨g, o, none⟩) k F.sz c = some ⟨g, o + k * F.sz, none⟩ := by
        unfold cutA
        rw [if_neg hkc]
        simp only [Option.map_some, addr_at]
      have hkl : k * F.sz ≤ cl.length := by rw [hcl]; exact Nat.mul_le_mul_right _ (by omega)
      have hdl : (xs.drop k).length = xs.length - k := List.length_drop
      rw [e2]
      refine ⟨_, ⟨by rw [rows_len], .inr ⟨g, c - k, o + k * F.sz, pre ++ cl.take (k * F.sz), cl.drop (k * F.sz), fz, by rw [hdl], rfl, by rw [hdl]; omega, by omega, by rw [List.length_drop, hcl, Nat.sub_mul], ?_, ?_, ?_⟩⟩, ?_⟩
      · rw [hdl, Nat.sub_mul, ← List.drop_take, ht, rows_drop]
      · rw [List.append_assoc, List.take_append_drop]; exact hfz
      · rw [List.length_append, List.length_take, ho]; omega
      · rw [List.append_assoc, List.take_append_drop]; exact List.Sublist.refl _
theorem Bag.dropK (b : Bag own xs L) : ∃ L', Bag own (xs.drop k) L' ∧ L'.Sublist L := by
  obtain ⟨La, Lb, rfl, h1, h2⟩ := Bag.split (xs := xs.take k) (ys := xs.drop k) (L := L) (by rwa [List.take_append_drop])
  exact ⟨Lb, h2, List.sublist_append_right _ _⟩
theorem OwnN.dropE (h : OwnN F own e (.slice A n c) xs L) (hk : k ≤ n) (hs : St w0 T (L ++ R) w) : ∃ L', St w0 T (L' ++ R) w ∧ OwnN F own e (.slice (cutA A k F.sz c) (n - k) (c - k)) (xs.drop k) L' := by
  obtain ⟨L0, Lb, rfl, h1, h2⟩ := h
  obtain ⟨L0', h3, h4⟩ := h1.dropE hk
  obtain ⟨Lb', h5, h6⟩ := h2.dropK (k := k)
  exact ⟨L0' ++ Lb', hs.drop (List.Sublist.append_right (List.Sublist.append h4 h6) R), L0', Lb', rfl, h3, h5⟩
/-- What lies behind the end may change. -/
theorem OwnF.spare (h : OwnF F e (.slice A n c) xs L) (hq : n < c) : ∃ (g : Nat) (pre cl : List Value) (lo hi : Nat), A = some ⟨g, pre.length, none⟩ ∧ L = [(g, .cells (pre ++ cl).toArray e (lo, hi))] ∧ (hi ≤ lo ∨ (pre ++ cl).length ≤ lo) ∧ cl.length = c * F.sz ∧
    ∀ cl' : List Value, cl'.length = cl.length → cl'.take (n * F.sz) = cl.take (n * F.sz) → OwnF F e (.slice A n c) xs [(g, .cells (pre ++ cl').toArray e (lo, hi))] := by
  have hl := h.len_
  rcases h.2 with ⟨⟨A', hv⟩, h0', rfl⟩ | ⟨g, cap, o, pre, cl, ⟨lo, hi'⟩, hv, rfl, hn, hc, hcl, ht, hfz, rfl⟩
  · cases hv; omega
  · cases hv
    refine ⟨g, pre, cl, lo, hi', rfl, rfl, hfz, hcl, fun cl' h1 h2 => ⟨h.1, .inr ⟨g, c, pre.length, pre, cl', (lo, hi'), rfl, rfl, hn, hc, by rw [h1, hcl], ?_, by rw [List.length_append, h1, ← List.length_append]; exact hfz, rfl⟩⟩⟩
    rw [hl, h2, ← hl, ht]
end
section
variable {α : Type} {F : Enc α} {P : Program} {w0 w : World} {T : List Nat} {n : Nat} {ol : List Oper} {o : Oper} {rest : List Oper} {f : Fr} {d : Nat} {K : Fr → World → Prop}
/-- Sets cells behind the end of a slice of ours to zero. -/
theorem WL.clearT {L1 R : Hp} {xs : List α} {A : Option Addr} {m c q cq : Nat} {e t : TypeId} {z : Value} {x : Operand} (hst : St w0 T (L1 ++ R) w) (hown : OwnF F e (.slice A m c) xs L1) (ht : P.underlying t = some (.slice e)) (hzv : ∀ w, (zeroValue e).run P w = .ok z w) (hz : cellsOf z = F.enc F.dflt)
    (ho : o.op = .call { callee := .builtin .clear, args := #[x], argTypes := #[t] }) (hw : want ol o f = some true) (hd : o.dst = none) (hx : ev f x = some (.slice (cutA A m F.sz c) q cq)) (hlo : m + q ≤ c)
    (k : ∀ L1' w', St w0 T (L1' ++ R) w' → OwnF F e (.slice A m c) xs L1' → WL P n ol rest K f w') : WL P n ol (o :: rest) K f w := by
  by_cases h0 : q = 0
  · refine WL.eff (w' := w) (v := .tuple #[]) hw hd (fun ρ hρ => ?_) (k L1 w hst hown)
    rw [h0] at hx
    simp [execOp, ho, hρ _ _ hx, resolve, invoke, builtin, Builtin.clear_, run_underlying ht]
    cases cutA A m F.sz c <;> simp
  · obtain ⟨g, pre, cl, a, b, rfl, rfl, hfz, hcl, hupd⟩ := hown.spare (by omega)
    have hpl : (pre ++ cl).length = pre.length + cl.length := List.length_append
    have hrl : (rows F (List.replicate q F.dflt)).length = q * F.sz := by rw [rows_len]; simp
    have e0 : (m + q) * F.sz = m * F.sz + q * F.sz := Nat.add_mul _ _ _
    have e1 : (m + q) * F.sz ≤ c * F.sz := Nat.mul_le_mul_right _ hlo
    obtain ⟨w', hr, hs'⟩ := hst.stored (P := P) 0 (off := pre.length + m * F.sz) (vs := rows F (List.replicate q F.dflt)) rfl rows_one (by rw [hrl, hpl]; omega) (by rcases hfz with h | h <;> omega)
    rw [splice_pre] at hs'
    have e2 : cutA (some ⟨g, pre.length, none⟩) m F.sz c = some ⟨g, pre.length + m * F.sz, none⟩ := by
      unfold cutA
      rw [if_neg (by omega)]
      simp only [Option.map_some, addr_at]
    rw [e2] at hx
    refine WL.eff (w' := w') (v := .tuple #[]) hw hd (fun ρ hρ => ?_) (k [(g, .cells (pre ++ (cl.take (m * F.sz) ++ rows F (List.replicate q F.dflt) ++ cl.drop (m * F.sz + (rows F (List.replicate q F.dflt)).length))).toArray e (a, b))] w' hs' (hupd _ ?_ ?_))
    · obtain ⟨q', hq⟩ : ∃ q', q = q' + 1 := ⟨q - 1, by omega⟩
      rw [hq] at hx hr
      simp [execOp, ho, hρ _ _ hx, resolve, invoke, builtin, Builtin.clear_, run_underlying ht, hzv, zeros_rows hz, hr]
    · simp only [List.length_append, List.length_take, List.length_drop, hrl]; omega
    · have e3 : (cl.take (m * F.sz)).length = m * F.sz := by rw [List.length_take]; omega
      rw [List.append_assoc, List.take_append_of_le_length (by omega), List.take_take, Nat.min_self]
end
section
variable {P : Program} {w : World} {o : Oper} {f : Fr} {t e : TypeId} {x y z v : Operand} {A : Option Addr} {n c sz : Nat} {k k' k'' : IntKind} {a b d : Int}
theorem Run.sliceT (lo hi : Nat) (hu : ∀ w, (underlying t).run P w = .ok (.slice e) w) (hz : ∀ w, (sizeOf e).run P w = .ok sz w) (ho : o.op = .slice t x (some y) (some z) none) (hx : ev f x = some (.slice A n c)) (hy : ev f y = some (.int k a)) (hw : ev f z = some (.int k' b))
    (ha : a = (lo : Int)) (hb : b = (hi : Int)) (h : lo ≤ hi ∧ hi ≤ c) : Run P o f w (.value (.slice (cutA A lo sz c) (hi - lo) (c - lo))) w := fun ρ hρ => by
  subst ha hb
  have h1 : lo ≤ hi := by omega
  have h2 : hi ≤ c := by omega
  simp [execOp, ho, hρ _ _ hx, hρ _ _ hy, hρ _ _ hw, Instr.sliceAt, Instr.slice, Instr.sliceBounds, Instr.sliceBound, asIntOf, hu, hz, cutA, h1, h2]
theorem Run.slice3 (lo hi mx : Nat) (hu : ∀ w, (underlying t).run P w = .ok (.slice e) w) (hz : ∀ w, (sizeOf e).run P w = .ok sz w) (ho : o.op = .slice t x (some y) (some z) (some v)) (hx : ev f x = some (.slice A n c)) (hy : ev f y = some (.int k a)) (hw : ev f z = some (.int k' b)) (hv : ev f v = some (.int k'' d))
    (ha : a = (lo : Int)) (hb : b = (hi : Int)) (hd : d = (mx : Int)) (h : lo ≤ hi ∧ hi ≤ mx ∧ mx ≤ c) : Run P o f w (.value (.slice (cutA A lo sz mx) (hi - lo) (mx - lo))) w := fun ρ hρ => by
  subst ha hb hd
  obtain ⟨h1, h2, h3⟩ := h
  simp [execOp, ho, hρ _ _ hx, hρ _ _ hy, hρ _ _ hw, hρ _ _ hv, Instr.sliceAt, Instr.slice, Instr.sliceBounds, Instr.sliceBound, asIntOf, hu, hz, cutA, h1, h2, h3]
end
end Go.Proofs.Ytlmcekfdlgkffaa
namespace Go.Proofs.Ytlmcekfdlgkffaa
open Go Go.RowKit
set_option linter.unusedVariables false
set_option linter.unusedSimpArgs false

section
variable {P : Program} {ops : Array Oper} {Q : Exit → Act → World → Prop} {md : Region.Mode} {S S1 : World → Prop} {k : Nat}
/-- Whatever order is picked: up to number k every operation leaves S1, from k on S. -/
def wpAnyG (P : Program) (md : Region.Mode) (ops : Array Oper) (Q : Exit → Act → World → Prop) (k : Nat) (S1 S : World → Prop) : Nat → Array Bool → Act → World → Prop
  | 0, listed, a, w => Region.ready md ops listed = [] ∧ Q .normal a w
  | fuel + 1, listed, a, w =>
    (Region.ready md ops listed = [] → Q .normal a w) ∧
    ∀ i ∈ Region.ready md ops listed, (i = k → wpOp P ops Q i (fun a' w' => S w' ∧ wpAnyH P md ops Q S fuel (listed.setIfInBounds i true) a' w') a w) ∧
      (i ≠ k → wpOp P ops Q i (fun a' w' => S1 w' ∧ wpAnyG P md ops Q k S1 S fuel (listed.setIfInBounds i true) a' w') a w)
theorem wpAny_of_gate : ∀ (fuel : Nat) (listed : Array Bool) (a : Act) (w : World), wpAnyG P md ops Q k S1 S fuel listed a w → wpAny P md ops Q fuel listed a w
  | 0, _, _, _, h => h
  | fuel + 1, _, _, _, h => ⟨h.1, fun i hi => by
    by_cases e : i = k
    · exact wpOp_mono (fun a' w' h' => wpAny_of_held fuel _ a' w' h'.2) ((h.2 i hi).1 e)
    · exact wpOp_mono (fun a' w' h' => wpAny_of_gate fuel _ a' w' h'.2) ((h.2 i hi).2 e)⟩
/-- An operation that number k waits for may be taken first, if it yields its value in every world that meets S1. -/
theorem wpAnyG_first {i : Nat} {oi ok : Oper} {v : Value} (hi : ops[i]? = some oi) (hok : ops[k]? = some ok) (hdep : ∃ e ∈ ok.after, Region.binds md e = true ∧ e.on = i) (hik : i ≠ k) (hsel : ∀ (j : Nat) (o : Oper) cs b, ops[j]? = some o → o.op ≠ .select cs b)
    (hQ : ∀ c a w, Q (.panic c) (a.put oi.dst v) w → Q (.panic c) a w) :
    ∀ (fuel : Nat) (listed : Array Bool) (a : Act) (w : World),
      (∀ j oj, ops[j]? = some oj → j ≠ i → listed.getD j true = false → (∀ e ∈ oj.after, Region.binds md e = true → e.on ≠ i) → oi.apart ops oj = true) →
      i ∈ Region.ready md ops listed → YieldsIf P ops S1 oi v a → S1 w →
      wpAnyG P md ops Q k S1 S fuel (listed.setIfInBounds i true) (a.put oi.dst v) w → wpAnyG P md ops Q k S1 S (fuel + 1) listed a w := by
  intro fuel
  have hnotk : ∀ (listed : Array Bool), i ∈ Region.ready md ops listed → k ∉ Region.ready md ops listed := by
    intro listed hr hk
    obtain ⟨e, he, hb, hon⟩ := hdep
    obtain ⟨_, o', ho', hall⟩ := mem_ready.1 hk
    rw [hok] at ho'
    cases ho'
    have h1 := hall e he hb
    have h0 := (mem_ready.1 hr).1
    rw [hon] at h1
    rcases Nat.lt_or_ge i listed.size with h' | h'
    · simp [h'] at h0 h1; rw [h0] at h1; cases h1
    · simp [Array.getElem?_eq_none h'] at h1
  induction fuel with
  | zero =>
    intro listed a w _ hr hy hS H
    refine ⟨fun h => (by rw [h] at hr; cases hr), fun j hj => ⟨fun e => absurd (e ▸ hj) (hnotk _ hr), fun _ => ?_⟩⟩
    by_cases hji : j = i
    · subst hji; exact hy.wpOp hi hS ⟨hS, H⟩
    · have := ready_mono hj hji
      rw [H.1] at this
      cases this
  | succ fuel ih =>
    intro listed a w hfree hr hy hS H
    refine ⟨fun h => (by rw [h] at hr; cases hr), fun j hj => ⟨fun e => absurd (e ▸ hj) (hnotk _ hr), fun hjk0 => ?_⟩⟩
    by_cases hji : j = i
    · subst hji; exact hy.wpOp hi hS ⟨hS, H⟩
    · have h1 := (H.2 j (ready_mono hj hji)).2 hjk0
      obtain ⟨hjun, oj, hoj, hall⟩ := mem_ready.1 hj
      have hnot : ∀ e ∈ oj.after, Region.binds md e = true → e.on ≠ i := fun e he hb heq => by
        have h1 := hall e he hb
        have h0 := (mem_ready.1 hr).1
        rw [heq] at h1
        rcases Nat.lt_or_ge i listed.size with h' | h'
        · simp [h'] at h0 h1; rw [h0] at h1; cases h1
        · simp [Array.getElem?_eq_none h'] at h1
      have h2 := wpOp_putIf hoj (hfree j oj hoj hji hjun hnot) (fun cs b => hsel i oi cs b hi) (fun cs b => hsel j oj cs b hoj) hQ hy h1
      have hfree' : ∀ q oq, ops[q]? = some oq → q ≠ i → (listed.setIfInBounds j true).getD q true = false →
          (∀ e ∈ oq.after, Region.binds md e = true → e.on ≠ i) → oi.apart ops oq = true := fun q oq hq hqi hun hno => by
        refine hfree q oq hq hqi ?_ hno
        by_cases hjq : j = q
        · subst hjq; exact hjun
        · rw [getD_set_ne true hjq] at hun; exact hun
      refine wpOp_mono (fun a' w' h3 => ⟨h3.2.1, ih (listed.setIfInBounds j true) a' w' hfree' (ready_mono hr (Ne.symm hji)) h3.1 h3.2.1 ?_⟩) h2
      rw [Array.setIfInBounds_comm _ _ hji]
      exact h3.2.2
/-- What yields its value in whatever world may be taken first. -/
theorem wpAnyG_firstB {i : Nat} {oi : Oper} {v : Value} (hi : ops[i]? = some oi) (hsel : ∀ (j : Nat) (o : Oper) cs b, ops[j]? = some o → o.op ≠ .select cs b)
    (hQ : ∀ c a w, Q (.panic c) (a.put oi.dst v) w → Q (.panic c) a w) (hik : i ≠ k) :
    ∀ (fuel : Nat) (listed : Array Bool) (a : Act) (w : World),
      (∀ j oj, ops[j]? = some oj → j ≠ i → listed.getD j true = false → (∀ e ∈ oj.after, Region.binds md e = true → e.on ≠ i) → oi.apart ops oj = true) →
      i ∈ Region.ready md ops listed → YieldsIf P ops (fun _ => True) oi v a → S1 w →
      wpAnyG P md ops Q k S1 S fuel (listed.setIfInBounds i true) (a.put oi.dst v) w → wpAnyG P md ops Q k S1 S (fuel + 1) listed a w := by
  intro fuel
  induction fuel with
  | zero =>
    intro listed a w _ hr hy hS H
    refine ⟨fun h => (by rw [h] at hr; cases hr), fun j hj => ⟨fun e => ?_, fun _ => ?_⟩⟩
    · have := ready_mono hj (e ▸ Ne.symm hik)
      rw [H.1] at this
      cases this
    · by_cases hji : j = i
      · subst hji; exact hy.wpOp hi trivial ⟨hS, H⟩
      · have := ready_mono hj hji
        rw [H.1] at this
        cases this
  | succ fuel ih =>
    intro listed a w hfree hr hy hS H
    refine ⟨fun h => (by rw [h] at hr; cases hr), fun j hj => ?_⟩
    by_cases hji : j = i
    · subst hji
      exact ⟨fun e => absurd e hik, fun _ => hy.wpOp hi trivial ⟨hS, H⟩⟩
    · have h1 := H.2 j (ready_mono hj hji)
      obtain ⟨hjun, oj, hoj, hall⟩ := mem_ready.1 hj
      have hnot : ∀ e ∈ oj.after, Region.binds md e = true → e.on ≠ i := fun e he hb heq => by
        have h1 := hall e he hb
        have h0 := (mem_ready.1 hr).1
        rw [heq] at h1
        rcases Nat.lt_or_ge i listed.size with h' | h'
        · simp [h'] at h0 h1; rw [h0] at h1; cases h1
        · simp [Array.getElem?_eq_none h'] at h1
      have hfree' : ∀ q oq, ops[q]? = some oq → q ≠ i → (listed.setIfInBounds j true).getD q true = false →
          (∀ e ∈ oq.after, Region.binds md e = true → e.on ≠ i) → oi.apart ops oq = true := fun q oq hq hqi hun hno => by
        refine hfree q oq hq hqi ?_ hno
        by_cases hjq : j = q
        · subst hjq; exact hjun
        · rw [getD_set_ne true hjq] at hun; exact hun
      refine ⟨fun e => ?_, fun e => ?_⟩
      · have h2 := wpOp_putIf hoj (hfree j oj hoj hji hjun hnot) (fun cs b => hsel i oi cs b hi) (fun cs b => hsel j oj cs b hoj) hQ hy (h1.1 e)
        refine wpOp_mono (fun a' w' h3 => ⟨h3.2.1, wpAnyH_first hi hsel hQ fuel (listed.setIfInBounds j true) a' w' hfree' (ready_mono hr (Ne.symm hji)) ?_ h3.2.1 ?_⟩) h2
        · exact h3.1.imp (fun q => ⟨q.1, fun w _ => q.2 w trivial⟩) id
        · rw [Array.setIfInBounds_comm _ _ hji]
          exact h3.2.2
      · have h2 := wpOp_putIf hoj (hfree j oj hoj hji hjun hnot) (fun cs b => hsel i oi cs b hi) (fun cs b => hsel j oj cs b hoj) hQ hy (h1.2 e)
        refine wpOp_mono (fun a' w' h3 => ⟨h3.2.1, ih (listed.setIfInBounds j true) a' w' hfree' (ready_mono hr (Ne.symm hji)) h3.1 h3.2.1 ?_⟩) h2
        rw [Array.setIfInBounds_comm _ _ hji]
        exact h3.2.2
end
def WG (P : Program) (n : Nat) (ol : List Oper) (k : Nat) (S1 S : World → Prop) (fuel : Nat) (listed : List Bool) (K : Fr → World → Prop) (f : Fr) (w : World) : Prop :=
  ∀ (Q : Exit → Act → World → Prop) (a : Act), (∀ c a w, ¬ Q (.panic c) a w) → Good a n f → (∀ a' f' w', Good a' n f' → K f' w' → Q .normal a' w') → wpAnyG P .any ol.toArray Q k S1 S fuel listed.toArray a w
/-- Number k waits for number i. -/
def waits (ol : List Oper) (k i : Nat) : Bool := match nthO ol k with
  | some o => o.after.toList.any (fun e => Region.binds .any e && Nat.beq e.on i) && !Nat.beq i k
  | none => false
section
variable {P : Program} {n : Nat} {ol : List Oper} {o : Oper} {K : Fr → World → Prop} {f : Fr} {w : World} {d : Nat} {v : Value} {S S1 : World → Prop} {fuel k : Nat} {listed : List Bool}
theorem WC.regionG {id : Nat} {l : List Oper} {Q : Kont} (k : Nat) (S S1 S2 : World → Prop) (hm : P.follows .mixedOrders = true)
    (_h0 : S { heap := w.heap, tape := w.tape, drawn := w.drawn + 1, os := w.os, output := w.output }) (_h1 : S1 { heap := w.heap, tape := w.tape, drawn := w.drawn + 1, os := w.os, output := w.output })
    (hS1 : S2 { heap := w.heap, tape := w.tape, drawn := w.drawn + 1, os := w.os, output := w.output })
    (h : ∀ w', S2 w' → WG P n l k S1 S l.length (List.replicate l.length false) (fun f w => Q .normal f w) f w') : WC P n (.region id l.toArray true) Q f w := fun a ha => by
  refine wp_region_noPanic (wp_region_any hm (wpAny_of_gate (k := k) (S1 := S1) (S := S) _ _ _ _ ?_))
  have e : (Array.replicate l.toArray.size false) = (List.replicate l.length false).toArray := by simp
  rw [e]
  have e2 : l.toArray.size = l.length := by simp
  rw [e2]
  exact h _ hS1 (NoPanic (qa n Q)) a (fun c a w hh => hh) ha (fun a' f' w' hg hk => ⟨f', hg, hk⟩)
theorem waits_dep {i : Nat} (h : waits ol k i = true) : ∃ ok, ol.toArray[k]? = some ok ∧ (∃ e ∈ ok.after, Region.binds .any e = true ∧ e.on = i) ∧ i ≠ k := by
  unfold waits at h
  split at h
  · rename_i ok ho
    simp only [Bool.and_eq_true, List.any_eq_true, Bool.not_eq_true'] at h
    obtain ⟨⟨e, he, h1, h2⟩, h3⟩ := h
    refine ⟨ok, by rw [List.getElem?_toArray, ← nthO_eq]; exact ho, ⟨e, Array.mem_toList_iff.1 he, h1, Nat.eq_of_beq_eq_true h2⟩, ?_⟩
    rintro rfl
    rw [Nat.beq_refl] at h3; cases h3
  · cases h
theorem WG.take (i : Nat) (hi : nthO ol i = some o) (hb : canTake ol listed i = true) (hkw : waits ol k i = true) (hw : want ol o f = some true) (hd : o.dst = some d) (hn : Nat.blt d n = true) (hS : S1 w) (hy : ∀ w, S1 w → Run P o f w (.value v) w)
    (kk : WG P n ol k S1 S fuel (setB listed i) K ((d, v) :: f) w) : WG P n ol k S1 S (fuel + 1) listed K f w := fun Q a hp ha hk => by
  simp only [canTake, Bool.and_eq_true] at hb
  have hi' : ol.toArray[i]? = some o := by rw [List.getElem?_toArray, ← nthO_eq]; exact hi
  obtain ⟨ok, h1, h2, h3⟩ := waits_dep hkw
  refine wpAnyG_first (v := v) hi' h1 h2 h3 (Region.noSelect_spec hb.1.1) (fun c a w hh => absurd hh (hp _ _ _)) fuel _ _ _ (Region.free_spec hi' hb.1.2) (by simpa using hb.2) (.inl ⟨want_eq ha hw, fun w hSw => hy w hSw a.eval fun x u hx => ha.ev hx⟩) hS ?_
  have := kk Q _ hp (ha.put hn v) hk
  rw [setB_eq] at this
  rw [hd]
  simpa using this
theorem WG.takeSkip (i : Nat) (hi : nthO ol i = some o) (hb : canTake ol listed i = true) (hkw : waits ol k i = true) (hw : want ol o f = some false) (hd : o.dst = some d) (hn : Nat.blt d n = true) (hS : S1 w)
    (kk : WG P n ol k S1 S fuel (setB listed i) K ((d, undef) :: f) w) : WG P n ol k S1 S (fuel + 1) listed K f w := fun Q a hp ha hk => by
  simp only [canTake, Bool.and_eq_true] at hb
  have hi' : ol.toArray[i]? = some o := by rw [List.getElem?_toArray, ← nthO_eq]; exact hi
  obtain ⟨ok, h1, h2, h3⟩ := waits_dep hkw
  refine wpAnyG_first (v := undef) hi' h1 h2 h3 (Region.noSelect_spec hb.1.1) (fun c a w hh => absurd hh (hp _ _ _)) fuel _ _ _ (Region.free_spec hi' hb.1.2) (by simpa using hb.2) (.inr ⟨want_eq ha hw, rfl⟩) hS ?_
  have := kk Q _ hp (ha.put hn undef) hk
  rw [setB_eq] at this
  rw [hd]
  simpa using this
theorem WG.takeB (i : Nat) (hi : nthO ol i = some o) (hb : canTake ol listed i = true) (hik : Nat.beq i k = false) (hw : want ol o f = some true) (hd : o.dst = some d) (hn : Nat.blt d n = true) (hS : S1 w) (hy : ∀ w, Run P o f w (.value v) w)
    (kk : WG P n ol k S1 S fuel (setB listed i) K ((d, v) :: f) w) : WG P n ol k S1 S (fuel + 1) listed K f w := fun Q a hp ha hk => by
  simp only [canTake, Bool.and_eq_true] at hb
  have hi' : ol.toArray[i]? = some o := by rw [List.getElem?_toArray, ← nthO_eq]; exact hi
  refine wpAnyG_firstB (v := v) hi' (Region.noSelect_spec hb.1.1) (fun c a w hh => absurd hh (hp _ _ _)) (by rintro rfl; rw [Nat.beq_refl] at hik; cases hik) fuel _ _ _ (Region.free_spec hi' hb.1.2) (by simpa using hb.2) (.inl ⟨want_eq ha hw, fun w _ => hy w a.eval fun x u hx => ha.ev hx⟩) hS ?_
  have := kk Q _ hp (ha.put hn v) hk
  rw [setB_eq] at this
  rw [hd]
  simpa using this
theorem WG.skipB (i : Nat) (hi : nthO ol i = some o) (hb : canTake ol listed i = true) (hik : Nat.beq i k = false) (hw : want ol o f = some false) (hd : o.dst = some d) (hn : Nat.blt d n = true) (hS : S1 w)
    (kk : WG P n ol k S1 S fuel (setB listed i) K ((d, undef) :: f) w) : WG P n ol k S1 S (fuel + 1) listed K f w := fun Q a hp ha hk => by
  simp only [canTake, Bool.and_eq_true] at hb
  have hi' : ol.toArray[i]? = some o := by rw [List.getElem?_toArray, ← nthO_eq]; exact hi
  refine wpAnyG_firstB (v := undef) hi' (Region.noSelect_spec hb.1.1) (fun c a w hh => absurd hh (hp _ _ _)) (by rintro rfl; rw [Nat.beq_refl] at hik; cases hik) fuel _ _ _ (Region.free_spec hi' hb.1.2) (by simpa using hb.2) (.inr ⟨want_eq ha hw, rfl⟩) hS ?_
  have := kk Q _ hp (ha.put hn undef) hk
  rw [setB_eq] at this
  rw [hd]
  simpa using this
def WGs (P : Program) (n : Nat) (ol : List Oper) (k : Nat) (S1 S : World → Prop) (fuel : Nat) (listed : List Bool) (K : Fr → World → Prop) (f : Fr) (w : World) (rs : List Nat) : Prop :=
  ∀ i, i ∈ rs → ∃ o, nthO ol i = some o ∧ ((i = k ∧ WL P n ol [o] (fun f' w' => S w' ∧ WH P n ol S fuel (setB listed i) K f' w') f w) ∨ (i ≠ k ∧ WL P n ol [o] (fun f' w' => S1 w' ∧ WG P n ol k S1 S fuel (setB listed i) K f' w') f w))
theorem WGs.nil : WGs P n ol k S1 S fuel listed K f w [] := fun _ h => by cases h
theorem WGs.cons {i : Nat} {rs : List Nat} (hi : nthO ol i = some o) (hne : Nat.beq i k = false) (h : WL P n ol [o] (fun f' w' => S1 w' ∧ WG P n ol k S1 S fuel (setB listed i) K f' w') f w) (hr : WGs P n ol k S1 S fuel listed K f w rs) : WGs P n ol k S1 S fuel listed K f w (i :: rs) := fun j hj => by
  rcases List.mem_cons.1 hj with rfl | hj
  · exact ⟨o, hi, .inr ⟨(by rintro rfl; rw [Nat.beq_refl] at hne; cases hne), h⟩⟩
  · exact hr j hj
theorem WGs.consK {rs : List Nat} (hi : nthO ol k = some o) (h : WL P n ol [o] (fun f' w' => S w' ∧ WH P n ol S fuel (setB listed k) K f' w') f w) (hr : WGs P n ol k S1 S fuel listed K f w rs) : WGs P n ol k S1 S fuel listed K f w (k :: rs) := fun j hj => by
  rcases List.mem_cons.1 hj with rfl | hj
  · exact ⟨o, hi, .inl ⟨rfl, h⟩⟩
  · exact hr j hj
theorem wpOp_one {K1 : Act → World → Prop} {Q : Exit → Act → World → Prop} {a : Act} {i : Nat} (hi' : ol.toArray[i]? = some o) (h1 : wpList P ol.toArray (Exit.then K1 Q) [o] a w) : wpOp P ol.toArray Q i K1 a w := by
  unfold wpOp
  rw [hi']
  show if Region.wanted o (yielded ol.toArray a.tmps) = true then _ else _
  unfold wpList at h1
  split
  · rename_i hwd
    rw [if_pos hwd] at h1
    exact wp_then h1
  · rename_i hwd
    rw [if_neg hwd] at h1
    exact h1
theorem WG.all (rs : List Nat) (hr : Region.ready .any ol.toArray listed.toArray = rs) (hne : rs.isEmpty = false) (h : WGs P n ol k S1 S fuel listed K f w rs) : WG P n ol k S1 S (fuel + 1) listed K f w := fun Q a hp ha hk => by
  refine ⟨fun h0 => ?_, fun i hi => ?_⟩
  · rw [hr] at h0; subst h0; cases hne
  · rw [hr] at hi
    obtain ⟨o, ho, hw⟩ := h i hi
    have hi' : ol.toArray[i]? = some o := by rw [List.getElem?_toArray, ← nthO_eq]; exact ho
    rcases hw with ⟨e, hw⟩ | ⟨e, hw⟩
    · refine ⟨fun _ => ?_, fun e2 => absurd e e2⟩
      refine wpOp_one hi' (hw (Exit.then (fun a' w' => S w' ∧ wpAnyH P .any ol.toArray Q S fuel (listed.toArray.setIfInBounds i true) a' w') Q) a ha (fun a' f' w' hg hh => ⟨hh.1, by
        have := hh.2 Q a' hp hg hk
        rw [setB_eq] at this
        simpa using this⟩))
    · refine ⟨fun e2 => absurd e2 e, fun _ => ?_⟩
      refine wpOp_one hi' (hw (Exit.then (fun a' w' => S1 w' ∧ wpAnyG P .any ol.toArray Q k S1 S fuel (listed.toArray.setIfInBounds i true) a' w') Q) a ha (fun a' f' w' hg hh => ⟨hh.1, by
        have := hh.2 Q a' hp hg hk
        rw [setB_eq] at this
        simpa using this⟩))
theorem WG.split {g : Bool} (s : Nat) (_hs : lk f s = some (.bool g)) (hT : g = true → WG P n ol k S1 S fuel listed K f w) (hF : g = false → WG P n ol k S1 S fuel listed K f w) : WG P n ol k S1 S fuel listed K f w := by
  cases h : g
  · exact hF h
  · exact hT h
/-- From here on more of the world is held. -/
theorem WG.strS {w0 : World} {T : List Nat} {L : Hp} (_hs : St w0 T L w) (hi : ∀ w', St w0 T L w' → S1 w') (h : WG P n ol k (fun w' => St w0 T L w') S fuel listed K f w) : WG P n ol k S1 S fuel listed K f w := fun Q a hp ha hk => by
  have key : ∀ (fuel : Nat) (listed : Array Bool) (a : Act) (w : World), wpAnyG P .any ol.toArray Q k (fun w' => St w0 T L w') S fuel listed a w → wpAnyG P .any ol.toArray Q k S1 S fuel listed a w := by
    intro fuel
    induction fuel with
    | zero => intro listed a w h; exact h
    | succ fuel ih => intro listed a w h; exact ⟨h.1, fun i hi' => ⟨(h.2 i hi').1, fun e => wpOp_mono (fun a' w' h' => ⟨hi _ h'.1, ih _ _ _ h'.2⟩) ((h.2 i hi').2 e)⟩⟩
  exact key _ _ _ _ (h Q a hp ha hk)
end
/-! a store into a cut of a slice of ours -/
section
variable {α : Type} {F : Enc α} {P : Program} {w0 w : World} {T : List Nat} {n : Nat} {ol : List Oper} {o : Oper} {rest : List Oper} {f : Fr} {d : Nat} {K : Fr → World → Prop}
theorem WL.storeC {v : Value} {L1 R : Hp} {xs : List α} {x' : α} {A : Option Addr} {m c lo j sz : Nat} {e : TypeId} {t : TypeId} {x y : Operand} {vs : List Value} (hst : St w0 T (L1 ++ R) w) (hown : OwnF F e (.slice A m c) xs L1) (hz : ∀ w, (sizeOf t).run P w = .ok sz w) (ho : o.op = .store t x y) (hw : want ol o f = some true) (hd : o.dst = none)
    (hx : ev f x = some (.pointer (some ((adr (cutA A lo F.sz c)).add (j * F.sz))))) (hy : ev f y = some v) (hvs : cellsOf v = vs) (h1 : vs.all (·.oneCell') = true) (hsz : Nat.beq vs.length sz = true) (hoff : Nat.beq sz F.sz = true) (hi : lo + j < m)
    (hx' : F.enc x' = vs)
    (k : ∀ L1' w', St w0 T (L1' ++ R) w' → OwnF F e (.slice A m c) (xs.set (lo + j) x') L1' → L1'.map (·.1) = L1.map (·.1) → WL P n ol rest K f w') : WL P n ol (o :: rest) K f w := by
  have hc := hown.cap
  obtain ⟨g, pre, cl, a, b, hA, _⟩ := hown.upd hi
  have ea : (adr (cutA A lo F.sz c)).add (j * F.sz) = (adr A).add ((lo + j) * F.sz) := by
    rw [hA]
    unfold cutA
    rw [if_neg (by omega)]
    show ((⟨g, pre.length, none⟩ : Addr).add (lo * F.sz)).add (j * F.sz) = (⟨g, pre.length, none⟩ : Addr).add _
    rw [Addr.add_add', Nat.add_mul]
  exact WL.storeF1 hst hown hz ho hw hd (by rw [← ea]; exact hx) hy hvs h1 hsz hoff hi hx' k
end

/-! more in a slice of ours that has room -/
section
variable {α : Type} {F : Enc α} {P : Program} {w0 w : World} {T : List Nat} {n : Nat} {ol : List Oper} {o : Oper} {rest : List Oper} {f : Fr} {d : Nat} {K : Fr → World → Prop}
theorem WL.appendR {L1 R : Hp} {xs ys : List α} {A : Option Addr} {k c : Nat} {t tx e : TypeId} {i : TypeInfo} {x : Value} {s y : Operand} (hst : St w0 T (L1 ++ R) w) (hown : OwnF F e (.slice A k c) xs L1) (hs : Src P F.sz tx x ys.length (rows F ys) w) (ht : P.underlying t = some (.slice e)) (hi : P.info? e = some i) (hs1 : Nat.beq i.size F.sz = true)
    (ho : o.op = .call { callee := .builtin .append, args := #[s, y], argTypes := #[t, tx] }) (hw : want ol o f = some true) (hd : o.dst = some d) (hn : Nat.blt d n = true) (hx : ev f s = some (.slice A k c)) (hy : ev f y = some x) (hroom : k + ys.length ≤ c) (hc0 : 0 < c)
    (kk : ∀ L1' w', St w0 T (L1' ++ R) w' → OwnF F e (.slice A (k + ys.length) c) (xs ++ ys) L1' → WL P n ol rest K ((d, .slice A (k + ys.length) c) :: f) w') : WL P n ol (o :: rest) K f w := by
  have hs1' := Nat.eq_of_beq_eq_true hs1
  have hlk := hown.len_
  rcases hown.2 with ⟨⟨A', hv⟩, h0, rfl⟩ | ⟨g, cap, o', pre, cl, fz, hv, rfl, hn', hc, hl, htk, hfz, rfl⟩
  · cases hv; omega
  · cases hv
    have hfit : xs.length * F.sz + (rows F ys).length ≤ cl.length := by rw [rows_len, hl, ← Nat.add_mul]; exact Nat.mul_le_mul_right _ hroom
    have hpl : (pre ++ cl).length = pre.length + cl.length := List.length_append
    obtain ⟨w', hr, hs'⟩ := hst.stored (P := P) 0 (off := pre.length + xs.length * F.sz) (vs := rows F ys) rfl hs.one (by rw [hpl]; omega) (by rcases hfz with h | h <;> omega)
    rw [splice_pre] at hs'
    refine WL.val (w' := w') (v := .slice (some ⟨g, pre.length, none⟩) (xs.length + ys.length) c) hw hd hn (fun ρ hρ => ?_) (kk [(g, .cells (pre ++ (cl.take (xs.length * F.sz) ++ rows F ys ++ cl.drop (xs.length * F.sz + (rows F ys).length))).toArray e fz)] w' hs' ?_)
    · rcases hs.kind with ⟨e', hk⟩ | hk <;> simp [execOp, ho, hρ _ _ hx, hρ _ _ hy, resolve, invoke, builtin, Builtin.append_, run_underlying ht, run_underlying hk, sizeOf, typeInfo, hi, hs.len, hroom, hs.cells, addr_at, hs1', hr]
    · have hxl : xs.length = xs.length := rfl
      refine ⟨by rw [rows_len], .inr ⟨g, c, _, pre, _, fz, by rw [List.length_append], rfl, by rw [List.length_append]; exact hroom, hc, ?_, ?_, ?_, rfl⟩⟩
      · simp only [List.length_append, List.length_take, List.length_drop]; omega
      · rw [rows_append, List.length_append, Nat.add_mul]
        have e1 : (cl.take (xs.length * F.sz)).length = xs.length * F.sz := by rw [List.length_take]; omega
        have e2 : rows F xs = cl.take (xs.length * F.sz) := htk.symm
        have e3 : (cl.take (xs.length * F.sz) ++ rows F ys).length = xs.length * F.sz + ys.length * F.sz := by rw [List.length_append, e1, rows_len]
        rw [e2, ← e3]; exact List.take_left
      · rcases hfz with h | h
        · exact .inl h
        · refine .inr ?_
          simp only [List.length_append, List.length_take, List.length_drop] at h ⊢; omega
end
/-- The rest of a nested slice of ours. -/
theorem OwnN.foldD {α : Type} {F : Enc α} {own : α → Hp → Prop} {e : TypeId} {v : Value} {xs : List α} {k : Nat} {L0 Lb R : Hp} {w0 w : World} {T : List Nat} (hs : St w0 T (L0 ++ (Lb ++ R)) w) (o : OwnF F e v (xs.drop k) L0) (b : Bag own xs Lb) : ∃ L, St w0 T (L ++ R) w ∧ OwnN F own e v (xs.drop k) L := by
  obtain ⟨Lb', h1, h2⟩ := b.dropK (k := k)
  exact ⟨L0 ++ Lb', by rw [List.append_assoc]; exact hs.drop (List.Sublist.append_left (List.Sublist.append_right h2 R) L0), L0, Lb', rfl, o, h1⟩
end Go.Proofs.Ytlmcekfdlgkffaa
