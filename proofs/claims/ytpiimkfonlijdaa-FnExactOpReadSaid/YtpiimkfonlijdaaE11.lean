/-
  The engine, part 11: ways through a region that meet again; functions as data.
-/
import Derived.Test.YtpiimkfonlijdaaE9
import Derived.Laws.Tables
namespace Go.Proofs.Ytpiimkfonlijdaa
open Go Go.RowKit
set_option linter.unusedVariables false
set_option linter.unusedSimpArgs false

section
variable {P : Program} {n : Nat} {f : Fr} {w w0 : World} {T : List Nat} {R : Hp}
theorem WC.join {c : Code} {Q : Kont} (Post : Fr → World → Prop) (h : WC P n c (fun e f' w' => e = .normal ∧ Post f' w') f w) (k : ∀ f' w', Post f' w' → Q .normal f' w') : WC P n c Q f w :=
  h.mono fun e f' w' ⟨he, hp⟩ => he ▸ k f' w' hp
theorem WC.join0 {c : Code} {Q : Kont} (L : Hp) (G : Fr) (h : WC P n c (fun e f' w' => e = .normal ∧ St w0 T L w' ∧ Sub G f') f w) (k : ∀ f' w', (St w0 T L w' ∧ Sub G f') → Q .normal f' w') : WC P n c Q f w := WC.join _ h k
theorem WC.join1 {c : Code} {Q : Kont} (L : Nat → Hp) (G : Nat → Fr) (h : WC P n c (fun e f' w' => e = .normal ∧ ∃ b, St w0 T (L b) w' ∧ Sub (G b) f') f w) (k : ∀ f' w', (∃ b, St w0 T (L b) w' ∧ Sub (G b) f') → Q .normal f' w') : WC P n c Q f w := WC.join _ h k
theorem WC.join2 {c : Code} {Q : Kont} (L : Nat → Nat → Hp) (G : Nat → Nat → Fr) (h : WC P n c (fun e f' w' => e = .normal ∧ ∃ b b', St w0 T (L b b') w' ∧ Sub (G b b') f') f w) (k : ∀ f' w', (∃ b b', St w0 T (L b b') w' ∧ Sub (G b b') f') → Q .normal f' w') : WC P n c Q f w := WC.join _ h k
theorem WC.join3 {c : Code} {Q : Kont} (L : Nat → Nat → Nat → Hp) (G : Nat → Nat → Nat → Fr) (h : WC P n c (fun e f' w' => e = .normal ∧ ∃ b b' b'', St w0 T (L b b' b'') w' ∧ Sub (G b b' b'') f') f w) (k : ∀ f' w', (∃ b b' b'', St w0 T (L b b' b'') w' ∧ Sub (G b b' b'') f') → Q .normal f' w') : WC P n c Q f w := WC.join _ h k
theorem St.swap (A : Hp) {x y : Nat × Obj} (h : St w0 T (A ++ (x :: y :: R)) w) : St w0 T (A ++ (y :: x :: R)) w := h.perm (List.Perm.append_left A (List.Perm.swap x y R))
theorem St.rot (A : Hp) {x : Nat × Obj} (h : St w0 T (A ++ (x :: R)) w) : St w0 T (x :: (A ++ R)) w := h.perm List.perm_middle.symm
theorem SlF.blk_lt {α : Type} {F : Enc α} {A : Option Addr} {m : Nat} {xs : List α} (h : SlF F w A m xs) (h0 : 0 < m) : (adr A).block < w.heap.size := by
  have hp := F.pos
  have hl : 0 < (rows F xs).length := by rw [rows_len, h.len]; exact Nat.mul_pos h0 hp
  have := h.rd.cell 0 _ (List.getElem?_eq_getElem hl)
  have := cell?_lt this
  rwa [add_block] at this
theorem St.sepT {α : Type} {F : Enc α} {A : Option Addr} {m : Nat} {xs : List α} {L1 : Hp} (hs : St w0 T (L1 ++ R) w) (h : SlF F w0 A m xs) (s : 0 < m → (adr A).block ∉ T) : 0 < m → (adr A).block ∉ L1.map (·.1) := by
  intro h0 hm
  obtain ⟨p, hp, he⟩ := List.mem_map.1 hm
  have h1 := h.blk_lt h0
  rcases (hs.own p (List.mem_append_left _ hp)).2 with h2 | h2
  · omega
  · exact s h0 (he ▸ h2)
theorem St.sepOwn {L1 : Hp} {p : Nat × Obj} (hs : St w0 T (L1 ++ R) w) (hp : p ∈ R) : p.1 ∉ L1.map (·.1) := by
  intro hm
  have hd := hs.nodup
  rw [List.map_append, List.nodup_append] at hd
  exact hd.2.2 _ hm _ (List.mem_map_of_mem hp) rfl
theorem St.takeN (w : World) (H L : Hp) (ho : ∀ p, p ∈ H ++ L → w.heap[p.1]? = some p.2) (hn : ((H ++ L).map (·.1)).Nodup) : St w ((H ++ L).map (·.1)) (H ++ (L ++ [])) w := by
  rw [List.append_nil]; exact St.take w (H ++ L) ho hn
theorem St.nodupL {L1 : Hp} (hs : St w0 T (L1 ++ R) w) : (L1.map (·.1)).Nodup := by
  have hd := hs.nodup
  rw [List.map_append, List.nodup_append] at hd
  exact hd.1
theorem St.ownA {L1 : Hp} (hs : St w0 T (L1 ++ R) w) : ∀ p, p ∈ L1 → w.heap[p.1]? = some p.2 := fun p hp => (hs.own p (List.mem_append_left _ hp)).1
end
/-- A function with what it holds. -/
structure FnD where
  fn : Fn
  caps : List Value
def encFn : Enc FnD := ⟨1, fun d => [.func d.fn #[] d.caps.toArray], ⟨.func 0, []⟩, fun _ => rfl, fun x v h => by simp at h; subst h; rfl, by decide⟩
section
variable {P : Program} {w : World} {o : Oper} {f : Fr} {x y : Operand} {t t' : TypeId} {k : IntKind} {a b : Int}
theorem Run.min (ho : o.op = .call { callee := .builtin .min, args := #[x, y], argTypes := #[t, t'] }) (hx : ev f x = some (.int k a)) (hy : ev f y = some (.int k b)) : Run P o f w (.value (.int k (Min.min a b))) w := fun ρ hρ => by
  have e : (if b < a then b else a) = Min.min a b := by split <;> omega
  simp [execOp, ho, hρ _ _ hx, hρ _ _ hy, resolve, invoke, builtin, go_sem, e]
theorem Run.max (ho : o.op = .call { callee := .builtin .max, args := #[x, y], argTypes := #[t, t'] }) (hx : ev f x = some (.int k a)) (hy : ev f y = some (.int k b)) : Run P o f w (.value (.int k (Max.max a b))) w := fun ρ hρ => by
  have e : (if a < b then b else a) = Max.max a b := by split <;> omega
  simp [execOp, ho, hρ _ _ hx, hρ _ _ hy, resolve, invoke, builtin, go_sem, e]
end
theorem Run.build {P : Program} {w : World} {o : Oper} {f : Fr} {t : TypeId} {parts : Array (Nat × Operand)} {ps : List (Nat × Operand)} {qs : List (Nat × Value)} {vs cl : List Value} (ho : o.op = .build t parts) (hps : parts.toList = ps) (hv : evs f (ps.map (·.2)) = some vs) (hz : (ps.map (·.1)).zip vs = qs) (hb : P.built t qs = some cl.toArray) : Run P o f w (.value (.agg cl.toArray)) w := fun ρ hρ => by
  have e : (parts.map fun p => (p.1, ρ p.2)).toList = qs := by
    rw [Array.toList_map, hps, ← hz]
    have := evs_map hρ hv
    rw [← this]
    clear hz hv hb this hps ho
    induction ps with
    | nil => rfl
    | cons a r ih => simp [ih]
  simp [execOp, ho, run_build w t _ cl.toArray (by rw [e]; exact hb)]
end Go.Proofs.Ytpiimkfonlijdaa
