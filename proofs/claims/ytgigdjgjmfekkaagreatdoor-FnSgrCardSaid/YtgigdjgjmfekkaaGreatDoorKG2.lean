/-
  What the proof stands on, part 2.
-/
import Derived.Test.YtgigdjgjmfekkaaGreatDoorKG1
namespace Go.Proofs.YtgigdjgjmfekkaaGreatDoor
open Go Go.RowKit
set_option linter.unusedVariables false
set_option linter.unusedSimpArgs false
section
variable {P : Program} {n : Nat} {f : Fr} {w w0 : World} {T : List Nat} {R : Hp}
theorem WC.join {c : Code} {Q : Kont} (Post : Fr → World → Prop) (h : WC P n c (fun e f' w' => e = .normal ∧ Post f' w') f w) (k : ∀ f' w', Post f' w' → Q .normal f' w') : WC P n c Q f w :=
 h.mono fun e f' w' ⟨he, hp⟩ => he ▸ k f' w' hp
theorem SlF.blk_lt {α : Type} {F : Enc α} {A : Option Addr} {m : Nat} {xs : List α} (h : SlF F w A m xs) (h0 : 0 < m) : (adr A).block < w.heap.size := by
 have hp := F.pos
 have hl : 0 < (rows F xs).length := by rw [rows_len, h.len]; exact Nat.mul_pos h0 hp
 have := h.rd.cell 0 _ (List.getElem?_eq_getElem hl)
 have := cell?_lt this
 rwa [add_block] at this
theorem St.sepT {α : Type} {F : Enc α} {A : Option Addr} {m : Nat} {xs : List α} {L1 : Hp} (hs : St w0 T (L1 ++ R) w) (h : SlF F w0 A m xs) (s : 0 < m → (adr A).block ∉ T) : 0 < m → (adr A).block ∉ L1.map (·.1) := by
 intro h0 hm
 obtain ⟨p, hp, he⟩ := List.mem_map.1 hm
 have h1 := h.blk_lt h0
 rcases (hs.own p (List.mem_append_left _ hp)).2 with h2 | h2
 ·omega
 ·exact s h0 (he ▸ h2)
theorem St.sepOwn {L1 : Hp} {p : Nat × Obj} (hs : St w0 T (L1 ++ R) w) (hp : p ∈ R) : p.1 ∉ L1.map (·.1) := by
 intro hm
 have hd := hs.nodup
 rw [List.map_append, List.nodup_append] at hd
 exact hd.2.2 _ hm _ (List.mem_map_of_mem hp) rfl
theorem St.nodupL {L1 : Hp} (hs : St w0 T (L1 ++ R) w) : (L1.map (·.1)).Nodup := by
 have hd := hs.nodup
 rw [List.map_append, List.nodup_append] at hd
 exact hd.1
end
section
variable {P : Program} {w : World} {o : Oper} {f : Fr} {x y : Operand} {t t' : TypeId} {k : IntKind} {a b : Int}
theorem Run.min (ho : o.op = .call { callee := .builtin .min, args := #[x, y], argTypes := #[t, t'] }) (hx : ev f x = some (.int k a)) (hy : ev f y = some (.int k b)) : Run P o f w (.value (.int k (Min.min a b))) w := fun ρ hρ => by
 have e : (if b < a then b else a) = Min.min a b := by split <;> omega
 simp [execOp, ho, hρ _ _ hx, hρ _ _ hy, resolve, invoke, builtin, go_sem, e]
theorem Run.max (ho : o.op = .call { callee := .builtin .max, args := #[x, y], argTypes := #[t, t'] }) (hx : ev f x = some (.int k a)) (hy : ev f y = some (.int k b)) : Run P o f w (.value (.int k (Max.max a b))) w := fun ρ hρ => by
 have e : (if a < b then b else a) = Max.max a b := by split <;> omega
 simp [execOp, ho, hρ _ _ hx, hρ _ _ hy, resolve, invoke, builtin, go_sem, e]
end
theorem Run.build {P : Program} {w : World} {o : Oper} {f : Fr} {t : TypeId} {parts : Array (Nat × Operand)} {ps : List (Nat × Operand)} {qs : List (Nat × Value)} {vs cl : List Value} (ho : o.op = .build t parts) (hps : parts.toList = ps) (hv : evs f (ps.map (·.2)) = some vs) (hz : (ps.map (·.1)).zip vs = qs) (hb : P.built t qs = some cl.toArray) : Run P o f w (.value (.agg cl.toArray)) w := fun ρ hρ => by
 have e : (parts.map fun p => (p.1, ρ p.2)).toList = qs := by
  rw [Array.toList_map, hps, ← hz]
  have := evs_map hρ hv
  rw [← this]
  clear hz hv hb this hps ho
  induction ps with
  | nil => rfl
  | cons a r ih => simp [ih]
 simp [execOp, ho, run_build w t _ cl.toArray (by rw [e]; exact hb)]
section
variable {P : Program} {w : World} {o : Oper} {f : Fr} {t t' : TypeId} {x y : Operand} {a b : Int}
theorem Run.nilCheck {p : Addr} (ho : o.op = .nilCheck x) (hx : ev f x = some (.pointer (some p))) : Run P o f w (.value (.pointer (some p))) w := fun ρ hρ => by
 simp [execOp, ho, hρ _ _ hx, asAddr, Instr.sureAddr, go_sem]
def bitsAnd (a b : Int) : Int := IntKind.i64.wrap ((BitVec.ofInt 64 a &&& BitVec.ofInt 64 b).toNat : Int)
def bitsXor (a b : Int) : Int := IntKind.i64.wrap ((BitVec.ofInt 64 a ^^^ BitVec.ofInt 64 b).toNat : Int)
theorem Run.andB (ho : o.op = .binOp .and t x y t') (hx : ev f x = some (.int .i64 a)) (hy : ev f y = some (.int .i64 b)) : Run P o f w (.value (.int .i64 (bitsAnd a b))) w := fun ρ hρ => by
 simp [execOp, ho, hρ _ _ hx, hρ _ _ hy, eqGuard, binOp, Op.intBits]
 rfl
theorem Run.xorB (ho : o.op = .binOp .xor t x y t') (hx : ev f x = some (.int .i64 a)) (hy : ev f y = some (.int .i64 b)) : Run P o f w (.value (.int .i64 (bitsXor a b))) w := fun ρ hρ => by
 simp [execOp, ho, hρ _ _ hx, hρ _ _ hy, eqGuard, binOp, Op.intBits]
 rfl
theorem bitsAnd_mask (a : Int) {m : Int} (h0 : 0 ≤ m) (h1 : m ≤ 9223372036854775807) : 0 ≤ bitsAnd a m ∧ bitsAnd a m ≤ m := by
 have h2 : (BitVec.ofInt 64 a &&& BitVec.ofInt 64 m).toNat ≤ m.toNat := by
  rw [BitVec.toNat_and, bvNat h0 h1]
  exact Nat.and_le_right
 have h3 : In64 (((BitVec.ofInt 64 a &&& BitVec.ofInt 64 m).toNat : Nat) : Int) := by constructor <;> omega
 have h4 : bitsAnd a m = ((BitVec.ofInt 64 a &&& BitVec.ofInt 64 m).toNat : Int) := wrap_in h3
 rw [h4]
 omega
end
theorem WC.loopV {P : Program} {n : Nat} {c : Code} {Q : Kont} {f : Fr} {w0 w : World} {T : List Nat} {R : Hp} {α : Type} (F : Fr) (hF : Sub F f) (L : α → Hp) (a0 : α) (hst : St w0 T (L a0 ++ R) w) (I : Nat → α → Fr → Prop) (k0 : Nat) (h0 : I k0 a0 f)
  (hr : ∀ k a f w, I k a f → Sub F f → St w0 T (L a ++ R) w → WC P n c (thenK (fun f' w' => Sub F f' ∧ ∃ a', St w0 T (L a' ++ R) w' ∧ ∃ k', k' < k ∧ I k' a' f') Q) f w) : WC P n (.loop c) Q f w :=
 WC.loopN (fun k f w => ∃ a, I k a f ∧ Sub F f ∧ St w0 T (L a ++ R) w) k0 ⟨a0, h0, hF, hst⟩ fun k f w ⟨a, h1, h2, h3⟩ => (hr k a f w h1 h2 h3).mono fun e f' w' q => by
  cases e
  case normal =>
   obtain ⟨q1, a', q2, k', q3, q4⟩ := q
   exact ⟨k', q3, a', q4, q1, q2⟩
  all_goals exact q
theorem St.take1 (w : World) (b : Nat) (o : Obj) (h : w.heap[b]? = some o) : St w [b] [(b, o)] w := by
 have := St.take w [(b, o)] (fun p hp => by simp at hp; subst hp; exact h) (by simp)
 exact this
section
variable {w0 w : World} {T : List Nat} {L1 L2 L3 L4 L5 L6 L7 L8 L9 R : Hp}
theorem St.grp0 (A : Hp) (h : St w0 T (A ++ R) w) : St w0 T (A ++ R) w := h
theorem St.ungrp0 (A : Hp) (h : St w0 T (A ++ R) w) : St w0 T (A ++ R) w := h
theorem St.grp1 (A : Hp) (h : St w0 T (A ++ (L1 ++ R)) w) : St w0 T ((A ++ (L1)) ++ R) w := by simpa only [List.append_assoc] using h
theorem St.ungrp1 (A : Hp) (h : St w0 T ((A ++ (L1)) ++ R) w) : St w0 T (A ++ (L1 ++ R)) w := by simpa only [List.append_assoc] using h
theorem St.grp2 (A : Hp) (h : St w0 T (A ++ (L1 ++ (L2 ++ R))) w) : St w0 T ((A ++ (L1 ++ L2)) ++ R) w := by simpa only [List.append_assoc] using h
theorem St.ungrp2 (A : Hp) (h : St w0 T ((A ++ (L1 ++ L2)) ++ R) w) : St w0 T (A ++ (L1 ++ (L2 ++ R))) w := by simpa only [List.append_assoc] using h
theorem St.takes2 (w : World) (L1 L2 : Hp) (h1 : ∀ p, p ∈ L1 → w.heap[p.1]? = some p.2) (h2 : ∀ p, p ∈ L2 → w.heap[p.1]? = some p.2) (hd : ((L1 ++ L2).map (·.1)).Nodup) : St w ((L1 ++ L2).map (·.1)) (L1 ++ (L2 ++ [])) w := by
 have h := St.take w (L1 ++ L2) (fun p hp => by
  simp only [List.mem_append] at hp
  rcases hp with hp | hp
  ·exact h1 p hp
  ·exact h2 p hp) hd
 simpa only [List.append_nil] using h
end
def Bag {α : Type} (own : α → Hp → Prop) : List α → Hp → Prop
 | [], L => L = []
 | x :: r, L => ∃ La Lb, L = La ++ Lb ∧ own x La ∧ Bag own r Lb
section
variable {α : Type} {own : α → Hp → Prop} {xs ys : List α} {x : α} {L La Lb : Hp}
theorem Bag.nil : Bag own [] [] := rfl
theorem Bag.append : ∀ {xs : List α} {La : Hp}, Bag own xs La → Bag own ys Lb → Bag own (xs ++ ys) (La ++ Lb)
 | [], La, h, k => by
  have : La = [] := h
  subst this; exact k
 | x :: r, La, h, k => by
  obtain ⟨L1, L2, rfl, h1, h2⟩ := h
  exact ⟨L1, L2 ++ Lb, by rw [List.append_assoc], h1, Bag.append h2 k⟩
theorem Bag.one (h : own x L) : Bag own [x] L := ⟨L, [], by simp, h, rfl⟩
theorem Bag.snoc (h : Bag own xs La) (k : own x Lb) : Bag own (xs ++ [x]) (La ++ Lb) := h.append (Bag.one k)
theorem Bag.split : ∀ {xs : List α} {L : Hp}, Bag own (xs ++ ys) L → ∃ La Lb, L = La ++ Lb ∧ Bag own xs La ∧ Bag own ys Lb
 | [], L, h => ⟨[], L, rfl, rfl, h⟩
 | x :: r, L, h => by
  obtain ⟨L1, L2, rfl, h1, h2⟩ := h
  obtain ⟨La, Lb, rfl, h3, h4⟩ := Bag.split h2
  exact ⟨L1 ++ La, Lb, by rw [List.append_assoc], ⟨L1, La, rfl, h1, h3⟩, h4⟩
theorem Bag.nth {F : Enc α} : ∀ {xs : List α} {L : Hp} {i : Nat}, Bag own xs L → i < xs.length → ∃ La Li Lb, L = La ++ (Li ++ Lb) ∧ own (gat F xs i) Li ∧ ∀ x' Li', own x' Li' → Bag own (xs.set i x') (La ++ (Li' ++ Lb))
 | [], _, _, _, hi => by simp at hi
 | x :: r, L, 0, h, _ => by
  obtain ⟨L1, L2, rfl, h1, h2⟩ := h
  exact ⟨[], L1, L2, rfl, h1, fun x' Li' hx => ⟨Li', L2, rfl, hx, h2⟩⟩
 | x :: r, L, i + 1, h, hi => by
  obtain ⟨L1, L2, rfl, h1, h2⟩ := h
  obtain ⟨La, Li, Lb, rfl, h3, h4⟩ := Bag.nth (F := F) (i := i) h2 (by simpa using hi)
  exact ⟨L1 ++ La, Li, Lb, by rw [List.append_assoc], by simpa [gat] using h3, fun x' Li' hx => ⟨L1, La ++ (Li' ++ Lb), by rw [List.append_assoc], h1, h4 x' Li' hx⟩⟩
theorem Bag.mem : ∀ {xs : List α} {L : Hp}, Bag own xs L → ∀ x, x ∈ xs → ∃ Li, own x Li ∧ ∀ p, p ∈ Li → p ∈ L
 | [], _, _, x, hx => by cases hx
 | y :: r, L, h, x, hx => by
  obtain ⟨L1, L2, rfl, h1, h2⟩ := h
  rcases List.mem_cons.1 hx with rfl | hx
  ·exact ⟨L1, h1, fun p hp => List.mem_append_left _ hp⟩
  ·obtain ⟨Li, h3, h4⟩ := Bag.mem h2 x hx
   exact ⟨Li, h3, fun p hp => List.mem_append_right _ (h4 p hp)⟩
end
structure SlD (α : Type) where
 A : Option Addr
 n : Nat
 c : Nat
 xs : List α
structure SlN {α : Type} (F : Enc α) (ok : World → α → Prop) (w : World) (A : Option Addr) (n : Nat) (xs : List α) : Prop where
 sl : SlF F w A n xs
 all : ∀ x, x ∈ xs → ok w x
section
variable {α : Type} {F : Enc α} {ok : World → α → Prop} {own : α → Hp → Prop} {w0 w : World} {A : Option Addr} {n c : Nat} {xs : List α} {L L0 L1 : Hp}
theorem SlN.len (h : SlN F ok w A n xs) : xs.length = n := h.sl.len
theorem SlN.nth (h : SlN F ok w A n xs) {i : Nat} (hi : i < n) : ok w (gat F xs i) := h.all _ (gat_mem (by rw [h.sl.len]; exact hi))
theorem SlN.st0 (hk : ∀ {w0 : World} {L : Hp} {w : World} {x : α}, ok w0 x → St w0 [] L w → ok w x) (h : SlN F ok w0 A n xs) (hs : St w0 [] L w) : SlN F ok w A n xs := ⟨SlF.st0 h.sl hs, fun x hx => hk (h.all x hx) hs⟩
theorem SlN.nil (w : World) (A : Option Addr) : SlN F ok w A 0 [] := ⟨SlF.nil _ _, fun x h => by cases h⟩
theorem SlN.ofOwn (hk : ∀ {x : α} {L : Hp} {w : World}, own x L → (∀ p, p ∈ L → w.heap[p.1]? = some p.2) → ok w x) {e : TypeId} (ho : OwnF F e (.slice A n c) xs L0) (hb : Bag own xs L1) (h0 : ∀ p, p ∈ L0 → w.heap[p.1]? = some p.2) (h1 : ∀ p, p ∈ L1 → w.heap[p.1]? = some p.2) : SlN F ok w A n xs :=
 ⟨SlF.ofOwn ho h0, fun x hx => by
  obtain ⟨Li, h2, h3⟩ := hb.mem x hx
  exact hk h2 fun p hp => h1 p (h3 p hp)⟩
end
inductive TK where
 | int (k : IntKind)
 | bool
 | str
 | slice (e : TypeId)
 | struct (offs : List Nat)
 | other
structure TyK where
 k : TK
 sz : Nat
 agg : Bool
inductive TT where
 | leaf
 | node (l : TT) (t : Nat) (v : TyK) (r : TT)
def TT.get : TT → Nat → Option TyK
 | .leaf, _ => none
 | .node l k v r, t => bif Nat.beq t k then some v else bif Nat.blt t k then l.get t else r.get t
section
variable (P : Program)
def AllSz : List Field → Prop
 | [] => True
 | f :: r => (∃ sz, (∀ w, (sizeOf f.type).run P w = .ok sz w) ∧ Nat.beq sz 0 = false) ∧ AllSz r
def TK.Ok (t : TypeId) : TK → Prop
 | .int k => ∀ w, (underlying t).run P w = .ok (.int k) w
 | .bool => ∀ w, (underlying t).run P w = .ok .bool w
 | .str => ∀ w, (underlying t).run P w = .ok .string w
 | .slice e => ∀ w, (underlying t).run P w = .ok (.slice e) w
 | .struct offs => ∃ fs, (∀ w, (underlying t).run P w = .ok (.struct fs) w) ∧ fs.toList.map (·.offset) = offs ∧ AllSz P fs.toList
 | .other => True
def TyK.Ok (t : TypeId) (v : TyK) : Prop := v.k.Ok P t ∧ (∀ w, (sizeOf t).run P w = .ok v.sz w) ∧ (∀ w, (isAgg t).run P w = .ok v.agg w)
def TT.Ok : TT → Prop
 | .leaf => True
 | .node l t v r => l.Ok ∧ v.Ok P t ∧ r.Ok
end
theorem TT.get_ok {P : Program} : ∀ {tb : TT} {t : Nat} {v : TyK}, tb.Ok P → tb.get t = some v → v.Ok P t
 | .leaf, _, _, _, h => by cases h
 | .node l k u r, t, v, h, hg => by
  unfold TT.get at hg
  cases hb : Nat.beq t k with
  | true =>
   rw [hb] at hg
   cases hg
   rw [Nat.eq_of_beq_eq_true hb]
   exact h.2.1
  | false =>
   rw [hb] at hg
   cases hl : Nat.blt t k with
   | true => rw [hl] at hg; exact TT.get_ok h.1 hg
   | false => rw [hl] at hg; exact TT.get_ok h.2.2 hg
theorem allSz_get {P : Program} : ∀ {fs : List Field} {i : Nat} {f : Field}, AllSz P fs → fs[i]? = some f → ∃ sz, (∀ w, (sizeOf f.type).run P w = .ok sz w) ∧ Nat.beq sz 0 = false
 | [], _, _, _, h => by simp at h
 | g :: r, 0, f, h, hi => by simp at hi; subst hi; exact h.1
 | g :: r, i + 1, f, h, hi => allSz_get (fs := r) (i := i) h.2 (by simpa using hi)
def ikB : IntKind → IntKind → Bool
 | .i64, .i64 => true
 | .u8, .u8 => true
 | .u32, .u32 => true
 | _, _ => false
theorem ikB_eq {a b : IntKind} (h : ikB a b = true) : a = b := by
 unfold ikB at h; split at h <;> first | rfl | cases h
def nthV : List Value → Nat → Option Value
 | [], _ => none
 | v :: _, 0 => some v
 | _ :: r, i + 1 => nthV r i
theorem nthV_eq : ∀ (l : List Value) (i : Nat), nthV l i = l[i]?
 | [], _ => by simp [nthV]
 | v :: _, 0 => by simp [nthV]
 | _ :: r, i + 1 => by simp [nthV, nthV_eq r i]
def nthN : List Nat → Nat → Option Nat
 | [], _ => none
 | v :: _, 0 => some v
 | _ :: r, i + 1 => nthN r i
theorem nthN_eq : ∀ (l : List Nat) (i : Nat), nthN l i = l[i]?
 | [], _ => by simp [nthN]
 | v :: _, 0 => by simp [nthN]
 | _ :: r, i + 1 => by simp [nthN, nthN_eq r i]
section
variable {β : Type}
def dropK : List Value → Nat → (List Value → Option β) → Option β
 | l, 0, k => k l
 | [], _ + 1, _ => none
 | _ :: r, i + 1, k => dropK r i k
def takeK : List Value → Nat → (List Value → Option β) → Option β
 | _, 0, k => k []
 | [], _ + 1, _ => none
 | v :: r, i + 1, k => takeK r i fun q => k (v :: q)
theorem dropK_some {k : List Value → Option β} {x : β} : ∀ {l : List Value} {i : Nat}, dropK l i k = some x → k (l.drop i) = some x ∧ i ≤ l.length
 | l, 0, h => ⟨by simpa [dropK] using h, Nat.zero_le _⟩
 | [], i + 1, h => by cases h
 | _ :: r, i + 1, h => by
  have := dropK_some (l := r) (i := i) h
  exact ⟨by simpa using this.1, by simpa using this.2⟩
theorem takeK_some {x : β} : ∀ {l : List Value} {i : Nat} {k : List Value → Option β}, takeK l i k = some x → k (l.take i) = some x ∧ i ≤ l.length
 | l, 0, _, h => ⟨by simpa [takeK] using h, Nat.zero_le _⟩
 | [], i + 1, _, h => by cases h
 | v :: r, i + 1, k, h => by
  have := takeK_some (l := r) (i := i) (k := fun q => k (v :: q)) h
  exact ⟨by simpa using this.1, by simpa using this.2⟩
def sv (tb : TT) (L : Hp) (op : Op) (f : Fr) (h : List Nat) (S : Prop) (k : Value → List Nat → Prop → Option β) : Option β :=
 match op with
 | .move x => match ev f x with
  | some v => k v h S
  | none => none
 | .assign x => match ev f x with
  | some v => k v h S
  | none => none
 | .nilCheck x => match ev f x with
  | some (.pointer (some a)) => k (.pointer (some a)) h S
  | _ => none
 | .unOp u _ x => match u, ev f x with
  | .not, some (.bool b) => k (.bool (!b)) h S
  | .neg, some (.int .i64 a) => k (.int .i64 (-a)) h (In64 (-a) ∧ S)
  | _, _ => none
 | .binOp b t x y _ => match ev f x, ev f y with
  | some (.int ka a), some (.int kb c) => bif ikB ka kb then (match b with
   | .lss => k (.bool (decide (a < c))) h S
   | .leq => k (.bool (decide (a ≤ c))) h S
   | .gtr => k (.bool (decide (c < a))) h S
   | .geq => k (.bool (decide (c ≤ a))) h S
   | .eql => k (.bool (decide (a = c))) h S
   | .neq => k (.bool (!decide (a = c))) h S
   | .add => bif ikB ka .i64 then k (.int .i64 (a + c)) h (In64 (a + c) ∧ S) else none
   | .sub => bif ikB ka .i64 then k (.int .i64 (a - c)) h (In64 (a - c) ∧ S) else none
   | .mul => bif ikB ka .i64 then k (.int .i64 (a * c)) h (In64 (a * c) ∧ S) else none
   | _ => none) else none
  | some (.string a), some (.string c) => (match b with
   | .eql => k (.bool (decide (a = c))) h S
   | .neq => k (.bool (!decide (a = c))) h S
   | _ => none)
  | some (.bool a), some (.bool c) => (match tb.get t with
   | some ⟨.bool, _, _⟩ => (match b with
    | .eql => k (.bool (a == c)) h S
    | .neq => k (.bool (!(a == c))) h S
    | _ => none)
   | _ => none)
  | _, _ => none
 | .convert s d x => match tb.get s, tb.get d with
  | some ⟨.int ks, _, _⟩, some ⟨.int kd, _, _⟩ => (match ev f x with
   | some (.int kv a) => bif ikB kv ks then (bif ikB kd .u8 then k (.int .u8 ((ub a).toNat)) h S else bif ikB kd .i64 then k (.int .i64 a) h (In64 a ∧ S) else none) else none
   | _ => none)
  | _, _ => none
 | .extract x i => match ev f x with
  | some (.tuple vs) => (match nthV vs.toList i with
   | some v => k v h S
   | none => none)
  | _ => none
 | .fieldAddr s x i => match tb.get s, ev f x with
  | some ⟨.struct offs, _, _⟩, some (.pointer (some ⟨b, off, none⟩)) => (match nthN offs i with
   | some o => k (.pointer (some ⟨b, off + o, none⟩)) h S
   | none => none)
  | _, _ => none
 | .load t x => match h with
  | i :: h' => (match tb.get t, ev f x, nthL L i with
   | some ⟨_, sz, ag⟩, some (.pointer (some ⟨b, off, none⟩)), some (b', .cells cs _ _) => bif ag then dropK cs.toList off fun l => takeK l sz fun q => k (.agg q.toArray) h' (b' = b ∧ S)
    else (match nthV cs.toList off with
     | some v => k v h' (b' = b ∧ S)
     | none => none)
   | _, _, _ => none)
  | [] => none
 | .call c => match c.callee, c.args.toList, c.argTypes.toList with
  | .builtin .len, [x], [t] => (match tb.get t, ev f x with
   | some ⟨.slice _, _, _⟩, some (.slice _ l _) => k (.int .i64 l) h S
   | some ⟨.str, _, _⟩, some (.string s) => k (.int .i64 s.size) h S
   | _, _ => none)
  | .builtin .cap, [x], [t] => (match tb.get t, ev f x with
   | some ⟨.slice _, _, _⟩, some (.slice _ _ c) => k (.int .i64 c) h S
   | _, _ => none)
  | .builtin .min, [x, y], [t, t'] => (match ev f x, ev f y with
   | some (.int ka a), some (.int kb c) => bif ikB ka kb then k (.int ka (Min.min a c)) h S else none
   | _, _ => none)
  | .builtin .max, [x, y], [t, t'] => (match ev f x, ev f y with
   | some (.int ka a), some (.int kb c) => bif ikB ka kb then k (.int ka (Max.max a c)) h S else none
   | _, _ => none)
  | _, _, _ => none
 | _ => none
end
section
variable {P : Program} {tb : TT} {w0 w : World} {T : List Nat} {L : Hp} {f : Fr}
theorem sv_ok {β : Type} {op : Op} {h : List Nat} {S : Prop} {k : Value → List Nat → Prop → Option β} {x : β} (htb : tb.Ok P) (hsv : sv tb L op f h S k = some x) :
    ∃ v h' S', k v h' S' = some x ∧ (S' → S ∧ ∀ w, (∀ p, p ∈ L → w.heap[p.1]? = some p.2) → ∀ o : Oper, o.op = op → Run P o f w (.value v) w) := by
  unfold sv at hsv
  split at hsv
  -- move
  · split at hsv
    · rename_i v hv
      exact ⟨_, _, _, hsv, fun hS => ⟨hS, fun w hst o ho => Run.move ho hv⟩⟩
    · cases hsv
  · split at hsv
    · rename_i v hv
      exact ⟨_, _, _, hsv, fun hS => ⟨hS, fun w hst o ho => Run.assign ho hv⟩⟩
    · cases hsv
  · split at hsv
    · rename_i a hv
      exact ⟨_, _, _, hsv, fun hS => ⟨hS, fun w hst o ho => Run.nilCheck ho hv⟩⟩
    · cases hsv
  -- unOp
  · split at hsv
    · rename_i b hv
      exact ⟨_, _, _, hsv, fun hS => ⟨hS, fun w hst o ho => Run.not ho hv⟩⟩
    · rename_i a hv
      exact ⟨_, _, _, hsv, fun hS => ⟨hS.2, fun w hst o ho => Run.neg ho hv (neg_in hS.1)⟩⟩
    · cases hsv
  -- binOp
  · split at hsv
    · rename_i ka a kc c hx hy
      cases hk : ikB ka kc with
      | false => rw [hk] at hsv; cases hsv
      | true =>
        have := ikB_eq hk
        subst this
        rw [hk] at hsv
        dsimp only [cond_true] at hsv
        split at hsv
        · exact ⟨_, _, _, hsv, fun hS => ⟨hS, fun w hst o ho => Run.lss ho hx hy⟩⟩
        · exact ⟨_, _, _, hsv, fun hS => ⟨hS, fun w hst o ho => Run.leq ho hx hy⟩⟩
        · exact ⟨_, _, _, hsv, fun hS => ⟨hS, fun w hst o ho => Run.gtr ho hx hy⟩⟩
        · exact ⟨_, _, _, hsv, fun hS => ⟨hS, fun w hst o ho => Run.geq ho hx hy⟩⟩
        · exact ⟨_, _, _, hsv, fun hS => ⟨hS, fun w hst o ho => Run.eql ho hx hy⟩⟩
        · exact ⟨_, _, _, hsv, fun hS => ⟨hS, fun w hst o ho => Run.neq ho hx hy⟩⟩
        all_goals first
          | (cases hsv; done)
          | (cases h64 : ikB ka .i64 with
             | false => rw [h64] at hsv; cases hsv
             | true =>
               rw [h64] at hsv
               have := ikB_eq h64
               subst this
               first
                 | exact ⟨_, _, _, hsv, fun hS => ⟨hS.2, fun w hst o ho => Run.add ho hx hy hS.1⟩⟩
                 | exact ⟨_, _, _, hsv, fun hS => ⟨hS.2, fun w hst o ho => Run.sub ho hx hy hS.1⟩⟩
                 | exact ⟨_, _, _, hsv, fun hS => ⟨hS.2, fun w hst o ho => Run.mul ho hx hy hS.1⟩⟩)
    · rename_i a c hx hy
      split at hsv
      · exact ⟨_, _, _, hsv, fun hS => ⟨hS, fun w hst o ho => Run.eqlS ho hx hy⟩⟩
      · exact ⟨_, _, _, hsv, fun hS => ⟨hS, fun w hst o ho => Run.neqS ho hx hy⟩⟩
      · cases hsv
    · rename_i a c hx hy
      split at hsv
      · rename_i ht
        have hu := (TT.get_ok htb ht).1
        split at hsv
        · exact ⟨_, _, _, hsv, fun hS => ⟨hS, fun w hst o ho => Run.eqlB hu ho hx hy⟩⟩
        · exact ⟨_, _, _, hsv, fun hS => ⟨hS, fun w hst o ho => Run.neqB hu ho hx hy⟩⟩
        · cases hsv
      · cases hsv
    · cases hsv
  -- convert
  · split at hsv
    · rename_i ks _ _ kd _ _ hs hd
      have hus := (TT.get_ok htb hs).1
      have hud := (TT.get_ok htb hd).1
      split at hsv
      · rename_i kv a hx
        cases hk : ikB kv ks with
        | false => rw [hk] at hsv; cases hsv
        | true =>
          have := ikB_eq hk
          subst this
          rw [hk] at hsv
          dsimp only [cond_true] at hsv
          cases h8 : ikB kd .u8 with
          | true =>
            rw [h8] at hsv
            have := ikB_eq h8
            subst this
            exact ⟨_, _, _, hsv, fun hS => ⟨hS, fun w hst o ho => Run.convU8 hus hud ho hx⟩⟩
          | false =>
            rw [h8] at hsv
            dsimp only [cond_false] at hsv
            cases h64 : ikB kd .i64 with
            | false => rw [h64] at hsv; cases hsv
            | true =>
              rw [h64] at hsv
              have := ikB_eq h64
              subst this
              refine ⟨_, _, _, hsv, fun hS => ⟨hS.2, fun w hst o ho => ?_⟩⟩
              have := Run.conv (P := P) (w := w) hus hud ho hx
              rwa [wrap_in hS.1] at this
      · cases hsv
    · cases hsv
  -- extract
  · split at hsv
    · rename_i vs hx
      split at hsv
      · rename_i v hv
        rw [nthV_eq] at hv
        exact ⟨_, _, _, hsv, fun hS => ⟨hS, fun w hst o ho => Run.extract ho hx hv⟩⟩
      · cases hsv
    · cases hsv
  -- fieldAddr
  · split at hsv
    · rename_i offs _ _ b off ht hx
      obtain ⟨fs, hu, hoffs, hall⟩ := (TT.get_ok htb ht).1
      split at hsv
      · rename_i i _ o hi
        rw [nthN_eq, ← hoffs, List.getElem?_map] at hi
        obtain ⟨fd, hfd, rfl⟩ := Option.map_eq_some_iff.1 hi
        obtain ⟨sz, hz, hz0⟩ := allSz_get hall hfd
        exact ⟨_, _, _, hsv, fun hS => ⟨hS, fun w hst o ho => Run.field hu ho hx hfd hz hz0⟩⟩
      · cases hsv
    · cases hsv
  -- load
  · split at hsv
    · split at hsv
      · rename_i i h' _ sz ag b off b' cs e fz ht hx hi
        obtain ⟨-, hz, hag⟩ := TT.get_ok htb ht
        cases ag with
        | true =>
          dsimp only [cond_true] at hsv
          obtain ⟨h1, hlo⟩ := dropK_some hsv
          obtain ⟨h2, hln⟩ := takeK_some h1
          refine ⟨_, _, _, h2, fun hS => ⟨hS.2, fun w hst o ho => ?_⟩⟩
          obtain ⟨rfl, -⟩ := hS
          have hh := hst _ (nthL_mem hi)
          refine Run.loadA hag hz ho hx (cells_of_heap (cl := cs.toList) (by simpa using hh) rfl ?_)
          rw [List.length_take]; exact Nat.min_eq_left hln
        | false =>
          dsimp only [cond_false] at hsv
          split at hsv
          · rename_i v hv
            rw [nthV_eq] at hv
            refine ⟨_, _, _, hsv, fun hS => ⟨hS.2, fun w hst o ho => ?_⟩⟩
            obtain ⟨rfl, -⟩ := hS
            have hh := hst _ (nthL_mem hi)
            exact Run.load hag ho hx (cell_of_heap (cl := cs.toList) (by simpa using hh) hv)
          · cases hsv
      · cases hsv
    · cases hsv
  -- call
  · rename_i c
    split at hsv
    · rename_i x t hc ha ht
      have e : ∀ o : Oper, o.op = .call c → o.op = .call { callee := .builtin .len, args := #[x], argTypes := #[t] } := fun o ho => by
        rw [ho]
        obtain ⟨c1, c2, c3⟩ := c
        simp only at hc ha ht
        subst hc
        congr 2
        · exact Array.toList_inj.1 ha
        · exact Array.toList_inj.1 ht
      split at hsv
      · rename_i _ _ _ _ l _ hg hx
        exact ⟨_, _, _, hsv, fun hS => ⟨hS, fun w hst o ho => Run.lenSl (TT.get_ok htb hg).1 (e o ho) hx⟩⟩
      · rename_i hg hx
        exact ⟨_, _, _, hsv, fun hS => ⟨hS, fun w hst o ho => Run.lenStr (TT.get_ok htb hg).1 (e o ho) hx⟩⟩
      · cases hsv
    · rename_i x t hc ha ht
      have e : ∀ o : Oper, o.op = .call c → o.op = .call { callee := .builtin .cap, args := #[x], argTypes := #[t] } := fun o ho => by
        rw [ho]
        obtain ⟨c1, c2, c3⟩ := c
        simp only at hc ha ht
        subst hc
        congr 2
        · exact Array.toList_inj.1 ha
        · exact Array.toList_inj.1 ht
      split at hsv
      · rename_i hg hx
        exact ⟨_, _, _, hsv, fun hS => ⟨hS, fun w hst o ho => Run.capSl (TT.get_ok htb hg).1 (e o ho) hx⟩⟩
      · cases hsv
    · rename_i x y t t' hc ha ht
      have e : ∀ o : Oper, o.op = .call c → o.op = .call { callee := .builtin .min, args := #[x, y], argTypes := #[t, t'] } := fun o ho => by
        rw [ho]
        obtain ⟨c1, c2, c3⟩ := c
        simp only at hc ha ht
        subst hc
        congr 2
        · exact Array.toList_inj.1 ha
        · exact Array.toList_inj.1 ht
      split at hsv
      · rename_i ka a kc c hx hy
        cases hk : ikB ka kc with
        | false => rw [hk] at hsv; cases hsv
        | true =>
          have := ikB_eq hk
          subst this
          rw [hk] at hsv
          exact ⟨_, _, _, hsv, fun hS => ⟨hS, fun w hst o ho => Run.min (e o ho) hx hy⟩⟩
      · cases hsv
    · rename_i x y t t' hc ha ht
      have e : ∀ o : Oper, o.op = .call c → o.op = .call { callee := .builtin .max, args := #[x, y], argTypes := #[t, t'] } := fun o ho => by
        rw [ho]
        obtain ⟨c1, c2, c3⟩ := c
        simp only at hc ha ht
        subst hc
        congr 2
        · exact Array.toList_inj.1 ha
        · exact Array.toList_inj.1 ht
      split at hsv
      · rename_i ka a kc c hx hy
        cases hk : ikB ka kc with
        | false => rw [hk] at hsv; cases hsv
        | true =>
          have := ikB_eq hk
          subst this
          rw [hk] at hsv
          exact ⟨_, _, _, hsv, fun hS => ⟨hS, fun w hst o ho => Run.max (e o ho) hx hy⟩⟩
      · cases hsv
    · cases hsv
  · cases hsv
end
def SubS (F f : Fr) : Prop := ∀ i v, lk F i = some v → lk f i = some v
theorem SubS.refl (f : Fr) : SubS f f := fun _ _ h => h
theorem SubS.trans {F G f : Fr} (h : SubS F G) (k : SubS G f) : SubS F f := fun i v hi => k i v (h i v hi)
theorem SubS.cons {F f : Fr} {d : Nat} {v : Value} (h : SubS F f) (hd : lk F d = none) : SubS F ((d, v) :: f) := fun i u hi => by
 unfold lk
 cases hb : Nat.beq d i with
 | true =>
  rw [Nat.eq_of_beq_eq_true hb] at hd
  rw [hd] at hi; cases hi
 | false => exact h i u hi
theorem SubS.put {F f : Fr} {d : Nat} {v : Value} (h : SubS F f) (hv : lk f d = some v) : SubS ((d, v) :: F) f := fun i u hi => by
 unfold lk at hi
 cases hb : Nat.beq d i with
 | true =>
  rw [hb] at hi
  rw [← Nat.eq_of_beq_eq_true hb, hv]
  exact hi
 | false =>
  rw [hb] at hi
  exact h i u hi
theorem SubS.head {F f : Fr} {d : Nat} {v : Value} (h : SubS F f) : SubS ((d, v) :: F) ((d, v) :: f) := fun i u hi => by
 unfold lk at hi ⊢
 cases hb : Nat.beq d i with
 | true => rw [hb] at hi; exact hi
 | false => rw [hb] at hi; exact h i u hi
def subB (F : Fr) : Nat → Fr → Option Fr
 | 0, f => some f
 | _ + 1, [] => none
 | k + 1, (d, _) :: f => match lk F d with
  | none => subB F k f
  | some _ => none
theorem subB_ok {F : Fr} : ∀ {k : Nat} {f : Fr}, subB F k f = some F → SubS F f
 | 0, f, h => by simp [subB] at h; subst h; exact SubS.refl _
 | k + 1, [], h => by cases h
 | k + 1, (d, v) :: f, h => by
  unfold subB at h
  split at h
  ·rename_i hd; exact (subB_ok h).cons hd
  ·cases h
theorem Good.subS {a : Act} {n : Nat} {F f : Fr} (h : Good a n f) (hs : SubS F f) : Good a n F := ⟨h.size, h.defers, fun i v hv => h.at_ i v (hs i v hv)⟩
theorem WC.subS {P : Program} {n : Nat} {Q : Kont} {c : Code} {F f : Fr} {w : World} (hs : SubS F f) (h : WC P n c Q F w) : WC P n c Q f w := fun a ha => h a (ha.subS hs)
section
variable {P : Program} {w : World} {n : Nat} {ol : List Oper} {K : Fr → World → Prop} {KQ : Fr → Prop} {C : World → Prop}
theorem WL.subS {l : List Oper} {F f : Fr} (hs : SubS F f) (h : WL P n ol l K F w) : WL P n ol l K f w := fun Q a ha hk => h Q a (ha.subS hs) hk
theorem WQ.subS {l : List Oper} {F f : Fr} (hs : SubS F f) (h : WQ P n ol l C KQ F) : WQ P n ol l C KQ f := fun a ha => h a (ha.subS hs)
end
def actB : List (Nat × Bool) → Nat → Bool → Bool
 | [], _, _ => false
 | (j, b) :: r, i, c => (Nat.beq j i && (b == c)) || actB r i c
def Acts (ol : List Oper) (act : List (Nat × Bool)) (f : Fr) : Prop := ∀ j b, actB act j b = true → ∃ oj dj, nthO ol j = some oj ∧ oj.dst = some dj ∧ lk f dj = some (.bool b)
theorem Acts.nil {ol : List Oper} {f : Fr} : Acts ol [] f := fun _ _ h => by cases h
def actH (ol : List Oper) (j : Nat) (f : Fr) : Option Bool :=
 match nthO ol j with
 | some oj => (match oj.dst with
  | some dj => (match lk f dj with
   | some (.bool g) => some g
   | _ => none)
  | none => none)
 | none => none
theorem actH_ok {ol : List Oper} {j : Nat} {f : Fr} {g : Bool} (h : actH ol j f = some g) : ∃ oj dj, nthO ol j = some oj ∧ oj.dst = some dj ∧ lk f dj = some (.bool g) := by
 unfold actH at h
 split at h
 ·rename_i oj hj
  split at h
  ·rename_i dj hd
   split at h
   ·rename_i g' hl
    cases h
    exact ⟨_, _, hj, hd, hl⟩
   ·cases h
  ·cases h
 ·cases h
theorem Acts.cons {ol : List Oper} {act : List (Nat × Bool)} {f : Fr} {j : Nat} {g b : Bool} (h : Acts ol act f) (hj : actH ol j f = some g) (hg : g = b) : Acts ol ((j, b) :: act) f := fun i c hi => by
 simp only [actB, Bool.or_eq_true, Bool.and_eq_true, beq_iff_eq] at hi
 rcases hi with ⟨h1, rfl⟩ | hi
 ·rw [← Nat.eq_of_beq_eq_true h1, ← hg]; exact actH_ok hj
 ·exact h i c hi
theorem Acts.put {ol : List Oper} {act : List (Nat × Bool)} {f : Fr} {d : Nat} {v : Value} (h : Acts ol act f) (hd : lk f d = none) : Acts ol act ((d, v) :: f) := fun i c hi => by
 obtain ⟨oj, dj, h1, h2, h3⟩ := h i c hi
 exact ⟨oj, dj, h1, h2, (SubS.refl f).cons hd dj _ h3⟩
def wantA (ol : List Oper) (act : List (Nat × Bool)) (o : Oper) (f : Fr) : Bool :=
 match o.guard with
 | none => true
 | some (j, b) => actB act j b
theorem wantA_ok {ol : List Oper} {act : List (Nat × Bool)} {o : Oper} {f : Fr} (ha : Acts ol act f) (h : wantA ol act o f = true) : want ol o f = some true := by
 unfold wantA at h
 unfold want
 cases hg : o.guard with
 | none => rfl
 | some p =>
  obtain ⟨j, b⟩ := p
  rw [hg] at h
  obtain ⟨oj, dj, h1, h2, h3⟩ := ha j b h
  simp [h1, h2, h3]
def frB (act : List (Nat × Bool)) (f : Fr) (d : Nat) : Bool :=
 match act with
 | [] => true
 | _ :: _ => match lk f d with
  | none => true
  | some _ => false
theorem frB_ok {ol : List Oper} {act : List (Nat × Bool)} {f : Fr} {d : Nat} {v : Value} (ha : Acts ol act f) (h : frB act f d = true) : Acts ol act ((d, v) :: f) := by
 cases act with
 | nil => exact Acts.nil
 | cons p r =>
  unfold frB at h
  simp only at h
  split at h
  ·rename_i hd; exact ha.put hd
  ·cases h
def runs (tb : TT) (n : Nat) (ol : List Oper) (L : Hp) (act : List (Nat × Bool)) : Nat → List Oper → Fr → List Nat → Prop → Option (List Oper × Fr × Prop)
 | 0, l, f, _, S => some (l, f, S)
 | _ + 1, [], _, _, _ => none
 | m + 1, o :: r, f, h, S => match o.dst with
  | some d => bif wantA ol act o f && Nat.blt d n && frB act f d then sv tb L o.op f h S fun v h' S' => runs tb n ol L act m r ((d, v) :: f) h' S' else none
  | none => none
section
variable {P : Program} {tb : TT} {w0 w : World} {T : List Nat} {L : Hp} {n : Nat} {ol : List Oper} {act : List (Nat × Bool)} {K : Fr → World → Prop} {KQ : Fr → Prop} {C : World → Prop}
theorem runs_ok (htb : tb.Ok P) : ∀ {m : Nat} {l l' : List Oper} {f f' : Fr} {h : List Nat} {S S' : Prop}, Acts ol act f → runs tb n ol L act m l f h S = some (l', f', S') → S' → S ∧ Acts ol act f' ∧ (∀ w, St w0 T L w → WL P n ol l' K f' w → WL P n ol l K f w) ∧ (WQ P n ol l' (fun w' => St w0 T L w') KQ f' → WQ P n ol l (fun w' => St w0 T L w') KQ f)
 | 0, l, l', f, f', h, S, S', ha, hr, hS => by
  simp only [runs, Option.some.injEq, Prod.mk.injEq] at hr
  obtain ⟨rfl, rfl, rfl⟩ := hr
  exact ⟨hS, ha, fun _ _ => id, id⟩
 | m + 1, [], l', f, f', h, S, S', ha, hr, hS => by cases hr
 | m + 1, o :: r, l', f, f', h, S, S', ha, hr, hS => by
  unfold runs at hr
  split at hr
  ·rename_i d hd
   cases hc : (wantA ol act o f && Nat.blt d n && frB act f d) with
   | false => rw [hc] at hr; cases hr
   | true =>
    rw [hc] at hr
    dsimp only [cond_true] at hr
    simp only [Bool.and_eq_true] at hc
    obtain ⟨v, h', S1, hk, hv⟩ := sv_ok htb hr
    obtain ⟨h1, h2, h3, h4⟩ := runs_ok htb (frB_ok ha hc.2) hk hS
    obtain ⟨h5, h6⟩ := hv h1
    have hw := wantA_ok ha hc.1.1
    exact ⟨h5, h2, fun w hst hl => WL.val hw hd hc.1.2 (h6 w (fun p hp => (hst.own p hp).1) o rfl) (h3 w hst hl), fun hl => WQ.val hw hd hc.1.2 (fun w hst => h6 w (fun p hp => (hst.own p hp).1) o rfl) (h4 hl)⟩
  ·cases hr
theorem WL.run (htb : tb.Ok P) (m : Nat) (hst : St w0 T L w) (h : List Nat) {l l' : List Oper} {f f' : Fr} {S : Prop} (hr : runs tb n ol L [] m l f h True = some (l', f', S)) (hS : S) (k : WL P n ol l' K f' w) : WL P n ol l K f w :=
 (runs_ok (KQ := fun _ => True) htb Acts.nil hr hS).2.2.1 w hst k
theorem WL.runA {f : Fr} (htb : tb.Ok P) (m : Nat) (ha : Acts ol act f) (hst : St w0 T L w) (h : List Nat) {l l' : List Oper} {f' : Fr} {S : Prop} (hr : runs tb n ol L act m l f h True = some (l', f', S)) (hS : S) (k : WL P n ol l' K f' w) : WL P n ol l K f w :=
 (runs_ok (KQ := fun _ => True) htb ha hr hS).2.2.1 w hst k
theorem WQ.run (htb : tb.Ok P) (m : Nat) (h : List Nat) {l l' : List Oper} {f f' : Fr} {S : Prop} (hr : runs tb n ol L [] m l f h True = some (l', f', S)) (hS : S) (k : WQ P n ol l' (fun w' => St w0 T L w') KQ f') : WQ P n ol l (fun w' => St w0 T L w') KQ f :=
 (runs_ok (K := fun _ _ => True) htb Acts.nil hr hS).2.2.2 k
theorem WQ.runA {f : Fr} (htb : tb.Ok P) (m : Nat) (ha : Acts ol act f) (h : List Nat) {l l' : List Oper} {f' : Fr} {S : Prop} (hr : runs tb n ol L act m l f h True = some (l', f', S)) (hS : S) (k : WQ P n ol l' (fun w' => St w0 T L w') KQ f') : WQ P n ol l (fun w' => St w0 T L w') KQ f :=
 (runs_ok (K := fun _ _ => True) htb ha hr hS).2.2.2 k
def skG (n : Nat) (ol : List Oper) (j : Nat) (bb : Bool) : Nat → List Oper → Fr → Option (List Oper × Fr)
 | 0, l, f => some (l, f)
 | _ + 1, [], _ => none
 | m + 1, o :: r, f => match o.dst with
  | some d => (match lk f d with
   | none => bif Nat.blt d n then (match o.guard with
    | some (i, b) => bif Nat.beq i j && (b == bb) then skG n ol j bb m r ((d, undef) :: f) else (match want ol o f with
     | some false => skG n ol j bb m r ((d, undef) :: f)
     | _ => none)
    | none => none) else none
   | some _ => none)
  | none => none
theorem skG_ok {j : Nat} {bb : Bool} : ∀ {m : Nat} {l l' : List Oper} {f f' : Fr}, actH ol j f = some (!bb) → skG n ol j bb m l f = some (l', f') → SubS f f' ∧ (∀ w, WL P n ol l' K f' w → WL P n ol l K f w) ∧ (WQ P n ol l' C KQ f' → WQ P n ol l C KQ f)
 | 0, l, l', f, f', ha, h => by
  simp only [skG, Option.some.injEq, Prod.mk.injEq] at h
  obtain ⟨rfl, rfl⟩ := h
  exact ⟨SubS.refl _, fun _ => id, id⟩
 | m + 1, [], l', f, f', ha, h => by cases h
 | m + 1, o :: r, l', f, f', ha, h => by
  unfold skG at h
  split at h
  ·rename_i d hd
   split at h
   ·rename_i hf
    cases hn : Nat.blt d n with
    | false => rw [hn] at h; cases h
    | true =>
     rw [hn] at h
     dsimp only [cond_true] at h
     have ha' : actH ol j ((d, undef) :: f) = some (!bb) := by
      obtain ⟨oj, dj, h1, h2, h3⟩ := actH_ok ha
      have := (SubS.refl f).cons (v := undef) hf dj _ h3
      unfold actH
      rw [h1]; simp only [h2, this]
     have fin : want ol o f = some false → skG n ol j bb m r ((d, undef) :: f) = some (l', f') → SubS f f' ∧ (∀ w, WL P n ol l' K f' w → WL P n ol (o :: r) K f w) ∧ (WQ P n ol l' C KQ f' → WQ P n ol (o :: r) C KQ f) := fun hw hk => by
      obtain ⟨h1, h2, h3⟩ := skG_ok ha' hk
      exact ⟨(SubS.refl f).cons hf |>.trans h1, fun w hl => WL.skip hw hd hn (h2 w hl), fun hl => WQ.skip hw hd hn (h3 hl)⟩
     split at h
     ·rename_i i b hgd
      cases hc : (Nat.beq i j && (b == bb)) with
      | true =>
       rw [hc] at h
       simp only [Bool.and_eq_true, beq_iff_eq] at hc
       obtain ⟨h1, rfl⟩ := hc
       obtain ⟨oj, dj, g1, g2, g3⟩ := actH_ok ha
       rw [← Nat.eq_of_beq_eq_true h1] at g1
       refine fin ?_ h
       unfold want
       simp only [hgd, g1, g2, g3]
       cases b <;> rfl
      | false =>
       rw [hc] at h
       dsimp only [cond_false] at h
       split at h
       ·rename_i hw; exact fin hw h
       ·cases h
     ·cases h
   ·cases h
  ·cases h
def actD (ol : List Oper) (j : Nat) : Option Nat :=
 match nthO ol j with
 | some oj => oj.dst
 | none => none
def grpH (n : Nat) (ol : List Oper) (act : List (Nat × Bool)) (e : Nat) (l : List Oper) (f : Fr) : Option (Bool × Bool × Nat × Nat × List Oper) :=
 match l with
 | o1 :: _ => (match o1.guard with
  | some (j, bb) => (match actH ol j f, actD ol j, skG n ol j bb e l f with
   | some g, some dj, some (o :: rest, _) => (match o.dst, o.op with
    | some d, .pick (.tmp t) x y => bif wantA ol act o f && Nat.blt d n && Nat.beq t dj then (match bb, x, y with
     | true, _, .const (.bool false) => some (true, g, j, d, rest)
     | false, .const (.bool true), _ => some (false, g, j, d, rest)
     | _, _, _ => none) else none
    | _, _ => none)
   | _, _, _ => none)
  | none => none)
 | [] => none
theorem Acts.subS {ol : List Oper} {act : List (Nat × Bool)} {F f : Fr} (h : Acts ol act F) (hs : SubS F f) : Acts ol act f := fun i c hi => by
 obtain ⟨oj, dj, h1, h2, h3⟩ := h i c hi
 exact ⟨oj, dj, h1, h2, hs _ _ h3⟩
theorem wantA_ok' {ol : List Oper} {act : List (Nat × Bool)} {o : Oper} {F f : Fr} (ha : Acts ol act f) (h : wantA ol act o F = true) : want ol o f = some true := wantA_ok (f := f) ha (by unfold wantA at h ⊢; exact h)
theorem want_none {o : Oper} {f : Fr} (h : o.guard = none) : want ol o f = some true := by unfold want; rw [h]
theorem grpH_ok {e : Nat} {l rest : List Oper} {f : Fr} {bb g : Bool} {j d : Nat} (ha : Acts ol act f) (h : grpH n ol act e l f = some (bb, g, j, d, rest)) :
  actH ol j f = some g ∧ (g = !bb → (∀ w, WL P n ol rest K ((d, .bool (!bb)) :: f) w → WL P n ol l K f w) ∧ (WQ P n ol rest C KQ ((d, .bool (!bb)) :: f) → WQ P n ol l C KQ f)) := by
 unfold grpH at h
 split at h
 ·rename_i o1 r
  split at h
  ·rename_i j' b' hgd
   split at h
   ·rename_i g' dj o rest' f' hact hdj hsk
    split at h
    ·rename_i d' t x y hdst hop
     cases hc : (wantA ol act o f && Nat.blt d' n && Nat.beq t dj) with
     | false => rw [hc] at h; cases h
     | true =>
      rw [hc] at h
      dsimp only [cond_true] at h
      simp only [Bool.and_eq_true] at hc
      have main : bb = b' → g = g' → j = j' → d = d' → rest = rest' → (∀ F : Fr, lk F t = some (.bool g') → g' = !b' → ∀ w, Run P o F w (.value (.bool (!b'))) w) →
        actH ol j f = some g ∧ (g = !bb → (∀ w, WL P n ol rest K ((d, .bool (!bb)) :: f) w → WL P n ol (o1 :: r) K f w) ∧ (WQ P n ol rest C KQ ((d, .bool (!bb)) :: f) → WQ P n ol (o1 :: r) C KQ f)) := by
       rintro rfl rfl rfl rfl rfl hrun
       refine ⟨hact, fun hg => ?_⟩
       obtain ⟨h1, h2, h3⟩ := skG_ok (P := P) (K := K) (KQ := KQ) (C := C) (by rw [hact, hg]) hsk
       obtain ⟨oj, dj', e1, e2, e3⟩ := actH_ok hact
       have hdd : dj' = dj := by
        unfold actD at hdj
        rw [e1] at hdj
        simp only at hdj
        rw [e2] at hdj
        exact Option.some.inj hdj
       have ht : lk f' t = some (.bool g) := by
        rw [Nat.eq_of_beq_eq_true hc.2, ← hdd]
        exact h1 _ _ e3
       exact ⟨fun w hl => h2 w (WL.val (wantA_ok' (ha.subS h1) hc.1.1) hdst hc.1.2 (hrun f' ht hg w) (WL.subS h1.head hl)),
        fun hl => h3 (WQ.val (wantA_ok' (ha.subS h1) hc.1.1) hdst hc.1.2 (fun w _ => hrun f' ht hg w) (WQ.subS h1.head hl))⟩
      split at h
      ·simp only [Option.some.injEq, Prod.mk.injEq] at h
       obtain ⟨rfl, rfl, rfl, rfl, rfl⟩ := h
       exact main rfl rfl rfl rfl rfl fun F hF hg w => Run.pickF hop hF hg rfl
      ·simp only [Option.some.injEq, Prod.mk.injEq] at h
       obtain ⟨rfl, rfl, rfl, rfl, rfl⟩ := h
       exact main rfl rfl rfl rfl rfl fun F hF hg w => Run.pickT hop hF hg rfl
      ·cases h
    ·cases h
   ·cases h
  ·cases h
 ·cases h
def pickH (n : Nat) (ol : List Oper) (act : List (Nat × Bool)) (o : Oper) (bb : Bool) (F : Fr) : Option (Nat × Bool × Bool) :=
 match o.dst, o.op with
 | some d, .pick c x y => bif wantA ol act o F && Nat.blt d n then (match ev F c, (bif bb then ev F x else ev F y) with
  | some (.bool g), some (.bool b) => some (d, g, b)
  | _, _ => none) else none
 | _, _ => none
theorem pickH_ok {o : Oper} {bb : Bool} {F : Fr} {d : Nat} {g b : Bool} (ha : Acts ol act F) (h : pickH n ol act o bb F = some (d, g, b)) : want ol o F = some true ∧ o.dst = some d ∧ Nat.blt d n = true ∧ (g = bb → ∀ w, Run P o F w (.value (.bool b)) w) := by
 unfold pickH at h
 split at h
 ·rename_i d' c x y h2 h3
  cases hn : (wantA ol act o F && Nat.blt d' n) with
  | false => rw [hn] at h; cases h
  | true =>
   rw [hn] at h
   dsimp only [cond_true] at h
   simp only [Bool.and_eq_true] at hn
   split at h
   ·rename_i g' b' hc hb
    simp only [Option.some.injEq, Prod.mk.injEq] at h
    obtain ⟨rfl, rfl, rfl⟩ := h
    refine ⟨wantA_ok ha hn.1, h2, hn.2, fun hg w => ?_⟩
    cases bb with
    | true => exact Run.pickT h3 hc hg hb
    | false => exact Run.pickF h3 hc hg hb
   ·cases h
 ·cases h
theorem WL.gA {l rest : List Oper} {f : Fr} {g b : Bool} {j d : Nat} (e : Nat) (ha : Acts ol act f) (hst : St w0 T L w) (hh : grpH n ol act e l f = some (true, g, j, d, rest)) (hT : g = true → (∀ w', St w0 T L w' → WL P n ol rest K ((d, .bool (g && b)) :: f) w') → WL P n ol l K f w)
  (J : (∀ w', St w0 T L w' → WL P n ol rest K ((d, .bool (g && b)) :: f) w')) : WL P n ol l K f w := by
 obtain ⟨h1, h2⟩ := grpH_ok (P := P) (K := K) (KQ := fun _ => True) (C := fun _ => True) ha hh
 cases g with
 | true => exact hT rfl J
 | false => exact (h2 rfl).1 w (J w hst)
theorem WL.eA {o : Oper} {rest : List Oper} {F f : Fr} {g b : Bool} {d : Nat} (k : Nat) (ha : Acts ol act F) (J : (∀ w', St w0 T L w' → WL P n ol rest K ((d, .bool (g && b)) :: f) w')) (hst : St w0 T L w) (hg : g = true) (hp : pickH n ol act o true F = some (d, g, b)) (hs : subB f k F = some f) : WL P n ol (o :: rest) K F w := by
 obtain ⟨h1, h2, h3, h4⟩ := pickH_ok (P := P) ha hp
 refine WL.val h1 h2 h3 (h4 hg w) (WL.subS (subB_ok hs).head ?_)
 have := J w hst
 rwa [hg, Bool.true_and] at this
theorem WL.pA {l rest : List Oper} {o : Oper} {f F : Fr} {g b : Bool} {j d : Nat} {S : Prop} (htb : tb.Ok P) (e : Nat) (ha : Acts ol act f) (hst : St w0 T L w) (h : List Nat) (hh : grpH n ol act e l f = some (true, g, j, d, rest)) (hr : runs tb n ol L ((j, true) :: act) e l f h True = some (o :: rest, F, S)) (hp : pickH n ol act o true F = some (d, g, b)) (hs : subB f e F = some f) (hS : g = true → S)
  (k : WL P n ol rest K ((d, .bool (g && b)) :: f) w) : WL P n ol l K f w := by
 obtain ⟨h1, h2⟩ := grpH_ok (P := P) (K := K) (KQ := fun _ => True) (C := fun _ => True) ha hh
 cases hg : g with
 | true =>
  subst hg
  obtain ⟨p1, p2, p3, p4⟩ := pickH_ok (P := P) (ha.subS (subB_ok hs)) hp
  refine WL.runA htb e (ha.cons h1 rfl) hst h hr (hS rfl) (WL.val p1 p2 p3 (p4 rfl w) (WL.subS (subB_ok hs).head ?_))
  rwa [Bool.true_and] at k
 | false => subst hg; exact (h2 rfl).1 w k
theorem WQ.gA {l rest : List Oper} {f : Fr} {g b : Bool} {j d : Nat} (e : Nat) (ha : Acts ol act f) (hh : grpH n ol act e l f = some (true, g, j, d, rest)) (hT : g = true → WQ P n ol rest C KQ ((d, .bool (g && b)) :: f) → WQ P n ol l C KQ f)
  (J : WQ P n ol rest C KQ ((d, .bool (g && b)) :: f)) : WQ P n ol l C KQ f := by
 obtain ⟨h1, h2⟩ := grpH_ok (P := P) (K := fun _ _ => True) (KQ := KQ) (C := C) ha hh
 cases g with
 | true => exact hT rfl J
 | false => exact (h2 rfl).2 J
theorem WQ.eA {o : Oper} {rest : List Oper} {F f : Fr} {g b : Bool} {d : Nat} (k : Nat) (ha : Acts ol act F) (J : WQ P n ol rest C KQ ((d, .bool (g && b)) :: f)) (hg : g = true) (hp : pickH n ol act o true F = some (d, g, b)) (hs : subB f k F = some f) : WQ P n ol (o :: rest) C KQ F := by
 obtain ⟨h1, h2, h3, h4⟩ := pickH_ok (P := P) ha hp
 refine WQ.val h1 h2 h3 (fun w _ => h4 hg w) (WQ.subS (subB_ok hs).head ?_)
 rwa [hg, Bool.true_and] at J
theorem WQ.pA {l rest : List Oper} {o : Oper} {f F : Fr} {g b : Bool} {j d : Nat} {S : Prop} (htb : tb.Ok P) (e : Nat) (ha : Acts ol act f) (h : List Nat) (hh : grpH n ol act e l f = some (true, g, j, d, rest)) (hr : runs tb n ol L ((j, true) :: act) e l f h True = some (o :: rest, F, S)) (hp : pickH n ol act o true F = some (d, g, b)) (hs : subB f e F = some f) (hS : g = true → S)
  (k : WQ P n ol rest (fun w' => St w0 T L w') KQ ((d, .bool (g && b)) :: f)) : WQ P n ol l (fun w' => St w0 T L w') KQ f := by
 obtain ⟨h1, h2⟩ := grpH_ok (P := P) (K := fun _ _ => True) (KQ := KQ) (C := fun w' => St w0 T L w') ha hh
 cases hg : g with
 | true =>
  subst hg
  obtain ⟨p1, p2, p3, p4⟩ := pickH_ok (P := P) (ha.subS (subB_ok hs)) hp
  refine WQ.runA htb e (ha.cons h1 rfl) h hr (hS rfl) (WQ.val p1 p2 p3 (fun w _ => p4 rfl w) (WQ.subS (subB_ok hs).head ?_))
  rwa [Bool.true_and] at k
 | false => subst hg; exact (h2 rfl).2 k
theorem WL.gO {l rest : List Oper} {f : Fr} {g b : Bool} {j d : Nat} (e : Nat) (ha : Acts ol act f) (hst : St w0 T L w) (hh : grpH n ol act e l f = some (false, g, j, d, rest)) (hT : g = false → (∀ w', St w0 T L w' → WL P n ol rest K ((d, .bool (g || b)) :: f) w') → WL P n ol l K f w)
  (J : (∀ w', St w0 T L w' → WL P n ol rest K ((d, .bool (g || b)) :: f) w')) : WL P n ol l K f w := by
 obtain ⟨h1, h2⟩ := grpH_ok (P := P) (K := K) (KQ := fun _ => True) (C := fun _ => True) ha hh
 cases g with
 | false => exact hT rfl J
 | true => exact (h2 rfl).1 w (J w hst)
theorem WL.eO {o : Oper} {rest : List Oper} {F f : Fr} {g b : Bool} {d : Nat} (k : Nat) (ha : Acts ol act F) (J : (∀ w', St w0 T L w' → WL P n ol rest K ((d, .bool (g || b)) :: f) w')) (hst : St w0 T L w) (hg : g = false) (hp : pickH n ol act o false F = some (d, g, b)) (hs : subB f k F = some f) : WL P n ol (o :: rest) K F w := by
 obtain ⟨h1, h2, h3, h4⟩ := pickH_ok (P := P) ha hp
 refine WL.val h1 h2 h3 (h4 hg w) (WL.subS (subB_ok hs).head ?_)
 have := J w hst
 rwa [hg, Bool.false_or] at this
theorem WL.pO {l rest : List Oper} {o : Oper} {f F : Fr} {g b : Bool} {j d : Nat} {S : Prop} (htb : tb.Ok P) (e : Nat) (ha : Acts ol act f) (hst : St w0 T L w) (h : List Nat) (hh : grpH n ol act e l f = some (false, g, j, d, rest)) (hr : runs tb n ol L ((j, false) :: act) e l f h True = some (o :: rest, F, S)) (hp : pickH n ol act o false F = some (d, g, b)) (hs : subB f e F = some f) (hS : g = false → S)
  (k : WL P n ol rest K ((d, .bool (g || b)) :: f) w) : WL P n ol l K f w := by
 obtain ⟨h1, h2⟩ := grpH_ok (P := P) (K := K) (KQ := fun _ => True) (C := fun _ => True) ha hh
 cases hg : g with
 | false =>
  subst hg
  obtain ⟨p1, p2, p3, p4⟩ := pickH_ok (P := P) (ha.subS (subB_ok hs)) hp
  refine WL.runA htb e (ha.cons h1 rfl) hst h hr (hS rfl) (WL.val p1 p2 p3 (p4 rfl w) (WL.subS (subB_ok hs).head ?_))
  rwa [Bool.false_or] at k
 | true => subst hg; exact (h2 rfl).1 w k
theorem WQ.gO {l rest : List Oper} {f : Fr} {g b : Bool} {j d : Nat} (e : Nat) (ha : Acts ol act f) (hh : grpH n ol act e l f = some (false, g, j, d, rest)) (hT : g = false → WQ P n ol rest C KQ ((d, .bool (g || b)) :: f) → WQ P n ol l C KQ f)
  (J : WQ P n ol rest C KQ ((d, .bool (g || b)) :: f)) : WQ P n ol l C KQ f := by
 obtain ⟨h1, h2⟩ := grpH_ok (P := P) (K := fun _ _ => True) (KQ := KQ) (C := C) ha hh
 cases g with
 | false => exact hT rfl J
 | true => exact (h2 rfl).2 J
theorem WQ.eO {o : Oper} {rest : List Oper} {F f : Fr} {g b : Bool} {d : Nat} (k : Nat) (ha : Acts ol act F) (J : WQ P n ol rest C KQ ((d, .bool (g || b)) :: f)) (hg : g = false) (hp : pickH n ol act o false F = some (d, g, b)) (hs : subB f k F = some f) : WQ P n ol (o :: rest) C KQ F := by
 obtain ⟨h1, h2, h3, h4⟩ := pickH_ok (P := P) ha hp
 refine WQ.val h1 h2 h3 (fun w _ => h4 hg w) (WQ.subS (subB_ok hs).head ?_)
 rwa [hg, Bool.false_or] at J
theorem WQ.pO {l rest : List Oper} {o : Oper} {f F : Fr} {g b : Bool} {j d : Nat} {S : Prop} (htb : tb.Ok P) (e : Nat) (ha : Acts ol act f) (h : List Nat) (hh : grpH n ol act e l f = some (false, g, j, d, rest)) (hr : runs tb n ol L ((j, false) :: act) e l f h True = some (o :: rest, F, S)) (hp : pickH n ol act o false F = some (d, g, b)) (hs : subB f e F = some f) (hS : g = false → S)
  (k : WQ P n ol rest (fun w' => St w0 T L w') KQ ((d, .bool (g || b)) :: f)) : WQ P n ol l (fun w' => St w0 T L w') KQ f := by
 obtain ⟨h1, h2⟩ := grpH_ok (P := P) (K := fun _ _ => True) (KQ := KQ) (C := fun w' => St w0 T L w') ha hh
 cases hg : g with
 | false =>
  subst hg
  obtain ⟨p1, p2, p3, p4⟩ := pickH_ok (P := P) (ha.subS (subB_ok hs)) hp
  refine WQ.runA htb e (ha.cons h1 rfl) h hr (hS rfl) (WQ.val p1 p2 p3 (fun w _ => p4 rfl w) (WQ.subS (subB_ok hs).head ?_))
  rwa [Bool.false_or] at k
 | true => subst hg; exact (h2 rfl).2 k
end
section
variable {β : Type}
def copyK : List Value → (List Value → Option β) → Option β
 | [], k => k []
 | v :: r, k => copyK r fun q => k (v :: q)
def setK : List Value → Nat → Value → (List Value → Option β) → Option β
 | [], _, _, _ => none
 | _ :: r, 0, v, k => k (v :: r)
 | x :: r, i + 1, v, k => setK r i v fun q => k (x :: q)
def overK : List Value → List Value → (List Value → Option β) → Option β
 | r, [], k => k r
 | [], _ :: _, _ => none
 | _ :: r, v :: vs, k => overK r vs fun q => k (v :: q)
def repK : List Value → Nat → List Value → (List Value → Option β) → Option β
 | r, 0, vs, k => overK r vs k
 | [], _ + 1, _, _ => none
 | x :: r, i + 1, vs, k => repK r i vs fun q => k (x :: q)
def setLK : Hp → Nat → Obj → (Hp → Option β) → Option β
 | [], _, _, _ => none
 | (b, _) :: r, 0, o, k => k ((b, o) :: r)
 | p :: r, i + 1, o, k => setLK r i o fun q => k (p :: q)
theorem copyK_some {x : β} : ∀ {l : List Value} {k : List Value → Option β}, copyK l k = some x → k l = some x
 | [], _, h => h
 | v :: r, k, h => copyK_some (l := r) (k := fun q => k (v :: q)) h
theorem setK_some {x : β} : ∀ {l : List Value} {i : Nat} {v : Value} {k : List Value → Option β}, setK l i v k = some x → k (l.set i v) = some x ∧ i < l.length
 | [], _, _, _, h => by cases h
 | _ :: r, 0, v, k, h => ⟨h, by simp⟩
 | y :: r, i + 1, v, k, h => by
  have := setK_some (l := r) (i := i) (k := fun q => k (y :: q)) h
  exact ⟨this.1, by simpa using this.2⟩
theorem overK_some {x : β} : ∀ {l vs : List Value} {k : List Value → Option β}, overK l vs k = some x → k (vs ++ l.drop vs.length) = some x ∧ vs.length ≤ l.length
 | l, [], k, h => by
  have h' : k l = some x := by cases l <;> exact h
  exact ⟨by simpa using h', Nat.zero_le _⟩
 | [], _ :: _, _, h => by cases h
 | _ :: r, v :: vs, k, h => by
  have := overK_some (l := r) (vs := vs) (k := fun q => k (v :: q)) h
  exact ⟨by simpa using this.1, by simpa using this.2⟩
theorem repK_some {x : β} : ∀ {l vs : List Value} {i : Nat} {k : List Value → Option β}, repK l i vs k = some x → k (l.take i ++ vs ++ l.drop (i + vs.length)) = some x ∧ i + vs.length ≤ l.length
 | l, vs, 0, k, h => by
  have h' : overK l vs k = some x := by cases l <;> exact h
  have := overK_some h'
  exact ⟨by simpa using this.1, by simpa using this.2⟩
 | [], _, _ + 1, _, h => by cases h
 | y :: r, vs, i + 1, k, h => by
  have := repK_some (l := r) (vs := vs) (i := i) (k := fun q => k (y :: q)) h
  refine ⟨?_, by have := this.2; simp only [List.length_cons]; omega⟩
  have e : i + 1 + vs.length = (i + vs.length) + 1 := by omega
  rw [e, List.take_succ_cons, List.drop_succ_cons]
  exact this.1
theorem setLK_some {x : β} : ∀ {l : Hp} {i : Nat} {o : Obj} {k : Hp → Option β}, setLK l i o k = some x → k (setL l i o) = some x
 | [], _, _, _, h => by cases h
 | (b, _) :: r, 0, o, k, h => h
 | p :: r, i + 1, o, k, h => setLK_some (l := r) (i := i) (k := fun q => k (p :: q)) h
end
def oneB (v : Value) : Bool := v.oneCell'
def stC (tb : TT) (o : Oper) (f : Fr) (L : Hp) (i : Nat) : Option (Hp × Prop) :=
 match o.guard, o.dst, o.op with
 | none, none, .store t x y => (match tb.get t, ev f x, ev f y, nthL L i with
  | some ⟨_, sz, ag⟩, some (.pointer (some ⟨b, off, none⟩)), some v, some (b', .cells cs e (lo, hi)) => bif Nat.ble hi lo then (match ag, v with
   | true, .agg vs => bif vs.toList.all oneB && Nat.beq vs.toList.length sz then repK cs.toList off vs.toList (fun cl => setLK L i (.cells cl.toArray e (lo, hi)) fun L' => some (L', b' = b)) else none
   | false, v => bif oneB v && Nat.beq sz 1 then setK cs.toList off v (fun cl => setLK L i (.cells cl.toArray e (lo, hi)) fun L' => some (L', b' = b)) else none
   | _, _ => none) else none
  | _, _, _, _ => none)
 | _, _, _ => none
section
variable {P : Program} {tb : TT} {w0 w : World} {T : List Nat} {L : Hp} {n : Nat} {ol rest : List Oper} {K : Fr → World → Prop} {f : Fr} {o : Oper}
theorem WL.st (htb : tb.Ok P) (hst : St w0 T L w) (i : Nat) {L' : Hp} {S : Prop} (h : stC tb o f L i = some (L', S)) (hS : S) (k : ∀ w', St w0 T L' w' → WL P n ol rest K f w') : WL P n ol (o :: rest) K f w := by
 unfold stC at h
 split at h
 ·rename_i t x y hg hd ho
  split at h
  ·rename_i sz ag b off v b' cs e lo hi ht hx hy hL
   obtain ⟨-, hz, hag⟩ := TT.get_ok htb ht
   cases hle : Nat.ble hi lo with
   | false => rw [hle] at h; cases h
   | true =>
    rw [hle] at h
    dsimp only [cond_true] at h
    have hle' := Nat.le_of_ble_eq_true hle
    split at h
    ·rename_i vs
     cases hc : (vs.toList.all oneB && Nat.beq vs.toList.length sz) with
     | false => rw [hc] at h; cases h
     | true =>
      rw [hc] at h
      dsimp only [cond_true] at h
      simp only [Bool.and_eq_true] at hc
      obtain ⟨h1, h2⟩ := repK_some h
      have h3 := setLK_some h1
      simp only [Option.some.injEq, Prod.mk.injEq] at h3
      obtain ⟨rfl, rfl⟩ := h3
      obtain rfl : b' = b := hS
      have hsz := Nat.eq_of_beq_eq_true hc.2
      have h4 : off + sz ≤ cs.toList.length := by rw [← hsz]; exact h2
      refine WL.storeA (cl := cs.toList) (vs := vs.toList) hst i hz ho (want_none hg) hd hx hy rfl (by simpa using hL) hc.1 hsz h4 (.inl hle') fun w' hw' => k w' ?_
      rw [hsz] at h1 h2
      simpa [hsz] using hw'
    ·cases hc : (oneB v && Nat.beq sz 1) with
     | false => rw [hc] at h; cases h
     | true =>
      rw [hc] at h
      dsimp only [cond_true] at h
      simp only [Bool.and_eq_true] at hc
      obtain ⟨h1, h2⟩ := setK_some h
      have h3 := setLK_some h1
      simp only [Option.some.injEq, Prod.mk.injEq] at h3
      obtain ⟨rfl, rfl⟩ := h3
      obtain rfl : b' = b := hS
      have hsz := Nat.eq_of_beq_eq_true hc.2
      subst hsz
      exact WL.storeI (cl := cs.toList) hst i hz ho (want_none hg) hd hx hy (by simpa using hL) hc.1 h2 (by omega) fun w' hw' => k w' hw'
    ·cases h
  ·cases h
 ·cases h
def cellsK (v : Value) : Option (List Value) :=
 match v with
 | .agg cs => copyK cs.toList some
 | v => some [v]
theorem cellsK_ok {v : Value} {cl : List Value} (h : cellsK v = some cl) : cellsOf v = cl := by
 cases v with
 | agg cs => exact Option.some.inj (copyK_some h)
 | _ => exact Option.some.inj h
def bxC (n : Nat) (o : Oper) (f : Fr) : Option (Nat × TypeId × List Value) :=
 match o.guard, o.dst, o.op with
 | none, some d, .box t x => (match ev f x with
  | some v => bif Nat.blt d n then (match cellsK v with
   | some cl => some (d, t, cl)
   | none => none) else none
  | none => none)
 | _, _, _ => none
theorem WL.bx (hst : St w0 T L w) {d : Nat} {t : TypeId} {cl : List Value} (h : bxC n o f = some (d, t, cl)) (k : ∀ b w', St w0 T ((b, .cells cl.toArray t (0, 0)) :: L) w' → WL P n ol rest K ((d, .pointer (some ⟨b, 0, none⟩)) :: f) w') : WL P n ol (o :: rest) K f w := by
 unfold bxC at h
 split at h
 ·rename_i d' t' x hg hd ho
  split at h
  ·rename_i v hx
   cases hn : Nat.blt d' n with
   | false => rw [hn] at h; cases h
   | true =>
    rw [hn] at h
    dsimp only [cond_true] at h
    split at h
    ·rename_i cl' hcl
     simp only [Option.some.injEq, Prod.mk.injEq] at h
     obtain ⟨rfl, rfl, rfl⟩ := h
     exact WL.box hst ho (want_none hg) hd hn hx (cellsK_ok hcl) k
    ·cases h
  ·cases h
 ·cases h
def alC (n : Nat) (o : Oper) : Option (Nat × TypeId) :=
 match o.guard, o.dst, o.op with
 | none, some d, .alloc t => bif Nat.blt d n then some (d, t) else none
 | _, _, _ => none
theorem WL.al (hst : St w0 T L w) {d : Nat} {t : TypeId} {z : Value} {cl : List Value} (hz : ∀ w, (zeroValue t).run P w = .ok z w) (h : alC n o = some (d, t)) (hc : cellsK z = some cl) (k : ∀ b w', St w0 T ((b, .cells cl.toArray t (0, 0)) :: L) w' → WL P n ol rest K ((d, .pointer (some ⟨b, 0, none⟩)) :: f) w') : WL P n ol (o :: rest) K f w := by
 unfold alC at h
 split at h
 ·rename_i d' t' hg hd ho
  cases hn : Nat.blt d' n with
  | false => rw [hn] at h; cases h
  | true =>
   rw [hn] at h
   simp only [cond_true, Option.some.injEq, Prod.mk.injEq] at h
   obtain ⟨rfl, rfl⟩ := h
   exact WL.alloc hst hz ho (want_none hg) hd hn (cellsK_ok hc) k
 ·cases h
end
def dtK (cs : List Value) (off sz : Nat) : Option (List Value) := dropK cs off fun l => takeK l sz some
theorem dtK_ok {cs vs : List Value} {off sz : Nat} (h : dtK cs off sz = some vs) : (cs.drop off).take sz = vs ∧ vs.length = sz := by
 obtain ⟨h1, h2⟩ := dropK_some h
 obtain ⟨h3, h4⟩ := takeK_some h1
 have e := Option.some.inj h3
 exact ⟨e, by rw [← e, List.length_take]; exact Nat.min_eq_left h4⟩
theorem resV.cellA {P : Program} {w0 w : World} {T : List Nat} {L : Hp} {tb : TT} {f : Fr} {a b sz : Nat} {t : TypeId} {k : TK} {cl vs : List Value} {e : TypeId} {fz : Nat × Nat} (htb : tb.Ok P) (hst : St w0 T L w) (i : Nat) (hl : lk f a = some (.pointer (some ⟨b, 0, none⟩))) (hi : nthL L i = some (b, .cells cl.toArray e fz)) (ht : tb.get t = some ⟨k, sz, true⟩) (hc : dtK cl 0 sz = some vs) : resV P f w (.cell a t) (.agg vs.toArray) := by
 obtain ⟨-, hz, hag⟩ := TT.get_ok htb ht
 obtain ⟨h1, h2⟩ := dtK_ok hc
 exact resV.cell hl (run_loadVarA hag hz (cells_of_heap (hst.own _ (nthL_mem hi)).1 h1 h2))
section
variable {P : Program} {tb : TT} {w0 w : World} {T : List Nat} {L : Hp} {n : Nat} {ol : List Oper} {act : List (Nat × Bool)} {K : Fr → World → Prop} {KQ : Fr → Prop} {C : World → Prop}
theorem WL.mono {l : List Oper} {K' : Fr → World → Prop} {f : Fr} (h : WL P n ol l K f w) (hk : ∀ f w, K f w → K' f w) : WL P n ol l K' f w := fun Q a ha hq => h Q a ha fun a' f' w' hg hh => hq a' f' w' hg (hk _ _ hh)
theorem WQ.mono {l : List Oper} {KQ' : Fr → Prop} {f : Fr} (h : WQ P n ol l C KQ f) (hk : ∀ f, KQ f → KQ' f) : WQ P n ol l C KQ' f := fun a ha => by
 refine (?_ : ∀ (l : List Oper) (a : Act), wpQuiet P _ C (fun a' => ∃ f', Good a' n f' ∧ KQ f') l a → wpQuiet P _ C (fun a' => ∃ f', Good a' n f' ∧ KQ' f') l a) l a (h a ha)
 intro l
 induction l with
 | nil =>
  rintro a ⟨f', hg, hh⟩
  exact ⟨f', hg, hk _ hh⟩
 | cons o r ih =>
  intro a ha
  unfold wpQuiet at ha ⊢
  split
  ·rename_i hw
   rw [if_pos hw] at ha
   exact Oper.quiet_mono ih ha
  ·rename_i hw
   rw [if_neg hw] at ha
   exact ih _ ha
theorem WC.sr {id : Nat} {l : List Oper} {y : Code} {Q : Kont} {f : Fr} (h : WL P n l l (fun f w => WC P n y Q f w) f w) : WC P n (.seq (.region id l.toArray false) y) Q f w :=
 WC.seq fun K hK => WC.region (h.mono fun f w hh => hK f w hh)
theorem WC.sq {id : Nat} {l : List Oper} {y : Code} {Q : Kont} {f : Fr} (hst : St w0 T L w) (hm : P.follows .mixedOrders = true) (hl : Region.lexB .any l.toArray = true) (h : WQ P n l l (fun w' => St w0 T L w') (fun f' => ∀ w', St w0 T L w' → WC P n y Q f' w') f) : WC P n (.seq (.region id l.toArray true) y) Q f w :=
 WC.seq fun K hK => WC.regionQ (fun w' => St w0 T L w') hm hl hst.drew (h.mono fun f' hh w' hw => hK f' w' (hh w' hw))
theorem WC.rr {id : Nat} {l : List Oper} {y : Code} {Q : Kont} {f f' : Fr} {S : Prop} (htb : tb.Ok P) (hst : St w0 T L w) (h : List Nat) (hr : runs tb n l L [] l.length l f h True = some ([], f', S)) (hS : S) (k : WC P n y Q f' w) : WC P n (.seq (.region id l.toArray false) y) Q f w :=
 WC.sr (WL.run htb l.length hst h hr hS (WL.nil k))
theorem WC.rq {id : Nat} {l : List Oper} {y : Code} {Q : Kont} {f f' : Fr} {S : Prop} (htb : tb.Ok P) (hst : St w0 T L w) (hm : P.follows .mixedOrders = true) (hl : Region.lexB .any l.toArray = true) (h : List Nat) (hr : runs tb n l L [] l.length l f h True = some ([], f', S)) (hS : S) (k : ∀ w', St w0 T L w' → WC P n y Q f' w') : WC P n (.seq (.region id l.toArray true) y) Q f w :=
 WC.sq hst hm hl (WQ.run htb l.length h hr hS (WQ.nil k))
theorem WC.cD {c : Operand} {x y : Code} {p : Prop} [Decidable p] {Q : Kont} {f : Fr} (hc : ev f c = some (.bool (decide p))) (hx : p → WC P n x Q f w) (hy : ¬ p → WC P n y Q f w) : WC P n (.cond c x y) Q f w :=
 WC.cond hc (fun h => hx (of_decide_eq_true h)) (fun h => hy (of_decide_eq_false h))
theorem WC.cN {c : Operand} {x y : Code} {p : Prop} [Decidable p] {Q : Kont} {f : Fr} (hc : ev f c = some (.bool (!decide p))) (hx : ¬ p → WC P n x Q f w) (hy : p → WC P n y Q f w) : WC P n (.cond c x y) Q f w :=
 WC.cond hc (fun h => hx (of_decide_eq_false (by simpa using h))) (fun h => hy (of_decide_eq_true (by simpa using h)))
theorem u8_in (b : UInt8) : In64 (b.toNat : Int) := by have := b.toNat_lt; constructor <;> omega
theorem bf : (∀ (p : Prop) [Decidable p], (decide p = true) = p) ∧ (∀ (p : Prop) [Decidable p], (decide p = false) = ¬ p) ∧ (∀ b : Bool, ((!b) = true) = (b = false)) ∧ (∀ b : Bool, ((!b) = false) = (b = true)) ∧ (∀ a b : Bool, ((a && b) = true) = (a = true ∧ b = true)) ∧ (∀ a b : Bool, ((a || b) = false) = (a = false ∧ b = false)) :=
 ⟨fun _ _ => by simp, fun _ _ => by simp, fun b => by simp, fun b => by simp, fun a b => by simp, fun a b => by simp⟩
end
theorem St.takes1 (w : World) (L1 : Hp) (h1 : ∀ p, p ∈ L1 → w.heap[p.1]? = some p.2) (hd : (L1.map (·.1)).Nodup) : St w (L1.map (·.1)) (L1 ++ []) w := St.lent w L1 h1 hd
def OwnN {α : Type} (F : Enc α) (own : α → Hp → Prop) (e : TypeId) (v : Value) (xs : List α) (L : Hp) : Prop := ∃ L0 Lb, L = L0 ++ Lb ∧ OwnF F e v xs L0 ∧ Bag own xs Lb
section
variable {α : Type} {F : Enc α} {own : α → Hp → Prop} {e : TypeId} {v : Value} {xs ys : List α} {L L0 Lb R : Hp} {w0 w : World} {T : List Nat} {A : Option Addr} {n c : Nat}
theorem OwnN.nil (F : Enc α) (own : α → Hp → Prop) (e : TypeId) : OwnN F own e (.slice none 0 0) [] [] := ⟨[], [], rfl, OwnF.nil F e, Bag.nil⟩
theorem OwnN.nilA (F : Enc α) (own : α → Hp → Prop) (e : TypeId) (A : Option Addr) : OwnN F own e (.slice A 0 0) [] [] := ⟨[], [], rfl, OwnF.nilA F e A, Bag.nil⟩
theorem OwnN.shape (h : OwnN F own e v xs L) : ∃ A c, v = .slice A xs.length c := by
 obtain ⟨L0, Lb, rfl, h1, h2⟩ := h
 exact h1.shape
theorem OwnN.len_ (h : OwnN F own e (.slice A n c) xs L) : xs.length = n := by
 obtain ⟨L0, Lb, rfl, h1, h2⟩ := h
 exact h1.len_
theorem OwnN.cap (h : OwnN F own e (.slice A n c) xs L) : n ≤ c := by
 obtain ⟨L0, Lb, rfl, h1, h2⟩ := h
 exact h1.cap
theorem OwnN.eqOf (_ : OwnN F own e v ys L) (h : ys = xs) : ys = xs := h
theorem OwnN.ok {ok : World → α → Prop} (h : OwnN F own e (.slice A n c) xs L) (hh : ∀ p, p ∈ L → w.heap[p.1]? = some p.2) (hk : ∀ x Li, x ∈ xs → own x Li → (∀ p, p ∈ Li → w.heap[p.1]? = some p.2) → ok w x) : SlN F ok w A n xs := by
 obtain ⟨L0, Lb, rfl, h1, h2⟩ := h
 refine ⟨SlF.ofOwn h1 fun p hp => hh p (List.mem_append_left _ hp), fun x hx => ?_⟩
 obtain ⟨Li, h3, h4⟩ := h2.mem x hx
 exact hk x Li hx h3 fun p hp => hh p (List.mem_append_right _ (h4 p hp))
theorem OwnN.sl (h : OwnN F own e (.slice A n c) xs L) (hh : ∀ p, p ∈ L → w.heap[p.1]? = some p.2) : SlF F w A n xs := by
 obtain ⟨L0, Lb, rfl, h1, h2⟩ := h
 exact SlF.ofOwn h1 fun p hp => hh p (List.mem_append_left _ hp)
theorem OwnN.fold (hs : St w0 T (L0 ++ (Lb ++ R)) w) (o : OwnF F e v xs L0) (b : Bag own xs Lb) : ∃ L, St w0 T (L ++ R) w ∧ OwnN F own e v xs L :=
 ⟨L0 ++ Lb, by simpa only [List.append_assoc] using hs, L0, Lb, rfl, o, b⟩
theorem OwnN.open_ (hs : St w0 T (L ++ R) w) (h : OwnN F own e v xs L) : ∃ L0 Lb, St w0 T (L0 ++ (Lb ++ R)) w ∧ OwnF F e v xs L0 ∧ Bag own xs Lb := by
 obtain ⟨L0, Lb, rfl, o, b⟩ := h
 exact ⟨L0, Lb, by simpa only [List.append_assoc] using hs, o, b⟩
theorem Bag.out {i : Nat} (hs : St w0 T (Lb ++ R) w) (b : Bag own xs Lb) (hi : i < xs.length) : ∃ La Li Lc, St w0 T (Li ++ ((La ++ Lc) ++ R)) w ∧ own (gat F xs i) Li ∧ (∀ {w' : World} {T' : List Nat} {R' : Hp} (x' : α) (Li' : Hp), St w0 T' (Li' ++ ((La ++ Lc) ++ R')) w' → own x' Li' → ∃ Lb', St w0 T' (Lb' ++ R') w' ∧ Bag own (xs.set i x') Lb') := by
 obtain ⟨La, Li, Lc, rfl, h1, h2⟩ := Bag.nth (F := F) b hi
 refine ⟨La, Li, Lc, hs.perm ?_, h1, fun x' Li' hs' hx => ⟨_, hs'.perm ?_, h2 x' Li' hx⟩⟩
 ·simp only [List.append_assoc]
  exact (List.perm_append_comm_assoc _ _ _)
 ·simp only [List.append_assoc]
  exact (List.perm_append_comm_assoc _ _ _)
theorem Bag.replace {i : Nat} {Lr : Hp} {r : α} (hs : St w0 T (Lb ++ (Lr ++ R)) w) (b : Bag own xs Lb) (hi : i < xs.length) (hr : own r Lr) : ∃ Lb', St w0 T (Lb' ++ R) w ∧ Bag own (xs.set i r) Lb' := by
 obtain ⟨La, Li, Lc, rfl, h1, h2⟩ := Bag.nth (F := ⟨1, fun _ => [.bool true], r, fun _ => rfl, fun _ _ h => by simp at h; subst h; rfl, by decide⟩) b hi
 refine ⟨La ++ (Lr ++ Lc), St.perm (hs.drop (L' := La ++ (Lc ++ (Lr ++ R))) ?_) ?_, h2 r Lr hr⟩
 ·simp only [List.append_assoc]
  exact List.Sublist.append_left (List.sublist_append_right Li _) La
 ·simp only [List.append_assoc]
  exact List.Perm.append_left La (List.perm_append_comm_assoc _ _ _)
theorem Bag.dflts {n : Nat} {d : α} (h : own d []) : Bag own (List.replicate n d) [] := by
 induction n with
 | zero => exact rfl
 | succ n ih => exact ⟨[], [], rfl, h, ih⟩
theorem OwnN.new {n : Nat} {d : α} (hs : St w0 T (L ++ R) w) (o : OwnF F e v (List.replicate n d) L) (h : own d []) : ∃ L', St w0 T (L' ++ R) w ∧ OwnN F own e v (List.replicate n d) L' :=
 ⟨L ++ [], by simpa using hs, L, [], rfl, o, Bag.dflts h⟩
theorem OwnN.fresh {xs : List α} (hs : St w0 T (L ++ R) w) (o : OwnF F e v xs L) (h : Bag own xs []) : ∃ L', St w0 T (L' ++ R) w ∧ OwnN F own e v xs L' :=
 ⟨L ++ [], by simpa using hs, L, [], rfl, o, h⟩
end
abbrev SlD.of {α : Type} {F : Enc α} {e : TypeId} {A : Option Addr} {n c : Nat} {xs : List α} {L : Hp} (_ : OwnF F e (.slice A n c) xs L) : SlD α := ⟨A, n, c, xs⟩
abbrev SlD.ofN {α : Type} {F : Enc α} {own : α → Hp → Prop} {e : TypeId} {A : Option Addr} {n c : Nat} {xs : List α} {L : Hp} (_ : OwnN F own e (.slice A n c) xs L) : SlD α := ⟨A, n, c, xs⟩
abbrev SlD.rd {α : Type} {F : Enc α} {w : World} {A : Option Addr} {n c : Nat} {xs : List α} (_ : SlF F w A n xs) (_ : n ≤ c) : SlD α := ⟨A, n, c, xs⟩
def tots {α : Type} (f : α → Nat) (l : List α) : Nat := l.length + (l.map f).sum
theorem le_sum : ∀ {l : List Nat} {x : Nat}, x ∈ l → x ≤ l.sum
 | [], _, h => by cases h
 | y :: r, x, h => by
  rw [List.sum_cons]
  rcases List.mem_cons.1 h with rfl | h
  ·omega
  ·have := le_sum h; omega
theorem tots_mem {α : Type} {f : α → Nat} {l : List α} {x : α} (h : x ∈ l) : f x ≤ tots f l := by
 have : f x ≤ (l.map f).sum := le_sum (List.mem_map_of_mem h)
 unfold tots; omega
theorem tots_len {α : Type} (f : α → Nat) (l : List α) : l.length ≤ tots f l := Nat.le_add_right _ _
theorem Run.quoB {P : Program} {w : World} {o : Oper} {f : Fr} {t t' : TypeId} {x y : Operand} {a : UInt8} (k : Nat) (ho : o.op = .binOp .quo t x y t') (hx : ev f x = some (.int .u8 a.toNat)) (hy : ev f y = some (.int .u8 (k : Int))) (h0 : 0 < k) (h1 : k ≤ 255) : Run P o f w (.value (.int .u8 ((UInt8.ofNat (a.toNat / k)).toNat))) w := fun ρ hρ => by
 have h3 := a.toNat_lt
 have h4 : a.toNat / k ≤ a.toNat := Nat.div_le_self _ _
 have hk0 : k ≠ 0 := by omega
 have e : IntKind.u8.wrap ((a.toNat : Int).tdiv (k : Int)) = ((UInt8.ofNat (a.toNat / k)).toNat : Int) := by
  rw [UInt8.toNat_ofNat', Nat.mod_eq_of_lt (by omega), Int.tdiv_eq_ediv_of_nonneg (by omega), ← Int.natCast_ediv, wrap_u8, ub_toNat]
  generalize a.toNat / k = m at h4 ⊢
  omega
 rw [← e]
 simp [execOp, ho, hρ _ _ hx, hρ _ _ hy, eqGuard, binOp, Op.intDiv, hk0]
theorem u8_div (a : UInt8) (k : Nat) : (UInt8.ofNat (a.toNat / k)).toNat = a.toNat / k := by
 have h3 := a.toNat_lt
 have h4 : a.toNat / k ≤ a.toNat := Nat.div_le_self _ _
 rw [UInt8.toNat_ofNat', Nat.mod_eq_of_lt (by omega)]
theorem u8_mod (a : UInt8) (k : Nat) : (UInt8.ofNat (a.toNat % k)).toNat = a.toNat % k := by
 have h3 := a.toNat_lt
 have h4 : a.toNat % k ≤ a.toNat := Nat.mod_le _ _
 rw [UInt8.toNat_ofNat', Nat.mod_eq_of_lt (by omega)]
theorem map_take_succ {α β : Type} {F : Enc α} {f : α → β} {xs : List α} {i : Nat} (h : i < xs.length) : (xs.take (i + 1)).map f = (xs.take i).map f ++ [f (gat F xs i)] := by
 rw [List.take_add_one, gat_get (F := F) h, List.map_append]; rfl
theorem WH.strS {P : Program} {n : Nat} {ol : List Oper} {K : Fr → World → Prop} {f : Fr} {w0 w : World} {T : List Nat} {L : Hp} {S : World → Prop} {fuel : Nat} {listed : List Bool} (_hs : St w0 T L w) (hi : ∀ w', St w0 T L w' → S w')
  (h : WH P n ol (fun w' => St w0 T L w') fuel listed K f w) : WH P n ol S fuel listed K f w := fun Q a hp ha hk => by
 have key : ∀ (fuel : Nat) (listed : Array Bool) (a : Act) (w : World), wpAnyH P .any ol.toArray Q (fun w' => St w0 T L w') fuel listed a w → wpAnyH P .any ol.toArray Q S fuel listed a w := by
  intro fuel
  induction fuel with
  | zero => intro listed a w h; exact h
  | succ fuel ih => intro listed a w h; exact ⟨h.1, fun i hi' => wpOp_mono (fun a' w' h' => ⟨hi _ h'.1, ih _ _ _ h'.2⟩) (h.2 i hi')⟩
 exact key _ _ _ _ (h Q a hp ha hk)
section
variable {α : Type} {F : Enc α} {P : Program} {w0 w : World} {T : List Nat} {n : Nat} {ol : List Oper} {o : Oper} {rest : List Oper} {f : Fr} {d : Nat} {K : Fr → World → Prop}
theorem firstCells_any {sz k k' c c' : Nat} {A : Option Addr} {us : Array Value} (h : (Builtin.firstCells sz k (.slice A k c)).run P w = .ok us w) : (Builtin.firstCells sz k (.slice A k' c')).run P w = .ok us w := by
 cases A <;> exact h
theorem WL.copyF {L1 R : Hp} {xs ys : List α} {A A' B : Option Addr} {m c lo q k' c' cb : Nat} {e t t2 : TypeId} {i : TypeInfo} {x y : Operand} (hst : St w0 T (L1 ++ R) w) (hown : OwnF F e (.slice A m c) xs L1) (hs : SlF F w A' k' ys) (ht : P.underlying t = some (.slice e)) (ht2 : P.underlying t2 = some (.slice e)) (hi : P.info? e = some i) (hs1 : Nat.beq i.size F.sz = true)
  (ho : o.op = .call { callee := .builtin .copy, args := #[x, y], argTypes := #[t, t2] }) (hw : want ol o f = some true) (hd : o.dst = some d) (hn : Nat.blt d n = true) (hx : ev f x = some (.slice B q cb)) (hy : ev f y = some (.slice A' k' c')) (hB : B = cutA A lo F.sz c ∨ (lo = 0 ∧ B = A)) (hlo : lo + q ≤ m) (h0q : 0 < q)
  (k : ∀ L1' w', St w0 T (L1' ++ R) w' → OwnF F e (.slice A m c) (xs.take lo ++ ys.take (min k' q) ++ xs.drop (lo + min k' q)) L1' → WL P n ol rest K ((d, .int .i64 (min k' q : Nat)) :: f) w') : WL P n ol (o :: rest) K f w := by
 have hs1' := Nat.eq_of_beq_eq_true hs1
 have hl := hown.len_
 have hk := hs.len
 have hyl : (ys.take (min k' q)).length = min k' q := by rw [List.length_take]; omega
 obtain ⟨g, pre, cl, a, b, rfl, rfl, hfz, hle, hupd⟩ := hown.updR (i := lo) (ys := ys.take (min k' q)) (by omega) (by rw [hyl]; omega)
 have hc := hown.cap
 have hrl : (rows F (ys.take (min k' q))).length = min k' q * F.sz := by rw [rows_len, hyl]
 rw [hyl] at hle hupd
 have e0 : (lo + min k' q) * F.sz = lo * F.sz + min k' q * F.sz := Nat.add_mul _ _ _
 have hpl : (pre ++ cl).length = pre.length + cl.length := List.length_append
 obtain ⟨w', hr, hs'⟩ := hst.stored (P := P) 0 (off := pre.length + lo * F.sz) (vs := rows F (ys.take (min k' q))) rfl rows_one (by rw [hrl]; omega) (by rcases hfz with h | h <;> omega)
 rw [splice_pre] at hs'
 have hcut := hs.cutH (hi := min k' q) (c := k') ⟨by omega, by omega, by omega⟩
 have hcut' : SlF F w A' (min k' q) (ys.take (min k' q)) := by
  by_cases h0 : min k' q = 0
  ·rw [h0] at hcut ⊢
   rw [List.take_zero]
   exact SlF.nil _ _
  ·have e3 : cutA A' 0 F.sz k' = A' := by
    unfold cutA
    rw [if_neg (by omega)]
    cases A' with
    | none => rfl
    | some q => simp [Addr.add]
   rwa [e3] at hcut
 have hsrc := (SlF.src (P := P) (c := c') hcut' ht2).cells
 rw [hyl] at hsrc
 have e2 : B = some ⟨g, pre.length + lo * F.sz, none⟩ := by
  rcases hB with rfl | ⟨rfl, rfl⟩
  ·unfold cutA
   rw [if_neg (by omega)]
   simp only [Option.map_some, addr_at]
  ·simp
 subst e2
 refine WL.val (w' := w') (v := .int .i64 (min k' q : Nat)) hw hd hn (fun ρ hρ => ?_) (k [(g, .cells (pre ++ (cl.take (lo * F.sz) ++ rows F (ys.take (min k' q)) ++ cl.drop (lo * F.sz + (rows F (ys.take (min k' q))).length))).toArray e (a, b))] w' hs' ?_)
 ·have hmin : Nat.min k' q = min k' q := rfl
  simp [execOp, ho, hρ _ _ hx, hρ _ _ hy, resolve, invoke, builtin, Builtin.copy_, run_underlying ht, Builtin.lenOf, sizeOf, typeInfo, hi, hs1', hmin, firstCells_any hsrc, hr, goInt]
 ·have := hupd _ (by rw [e0])
  rw [hrl]
  exact this
end
section
variable {P : Program} {w : World} {o : Oper} {f : Fr} {t t' : TypeId} {x y : Operand} {k : IntKind}
theorem wrapU {a : Int} (n : Nat) (h : a = (n : Int)) (hn : n < 18446744073709551616) : IntKind.u64.wrap a = (n : Int) := by
 subst h
 simp [IntKind.wrap, IntKind.bits, IntKind.signed]
 omega
theorem Run.maskU (n : Nat) (ho : o.op = .binOp .and t x y t') (hx : ev f x = some (.int .u64 (n : Int))) (hy : ev f y = some (.int .u64 4294967295)) (hn : n < 4294967296) : Run P o f w (.value (.int .u64 (n : Int))) w := fun ρ hρ => by
 have e : (BitVec.ofInt 64 (n : Int) &&& BitVec.ofInt 64 4294967295).toNat = n := by
  rw [BitVec.toNat_and, BitVec.toNat_ofInt, BitVec.toNat_ofInt]
  have h1 : ((n : Int) % ((2 ^ 64 : Nat) : Int)).toNat = n := by omega
  have h2 : ((4294967295 : Int) % ((2 ^ 64 : Nat) : Int)).toNat = 2 ^ 32 - 1 := by decide
  rw [h1, h2, Nat.and_two_pow_sub_one_eq_mod]
  omega
 have e2 := wrapU (a := ((BitVec.ofInt 64 (n : Int) &&& BitVec.ofInt 64 4294967295).toNat : Int)) n (by rw [e]) (by omega)
 simp [execOp, ho, hρ _ _ hx, hρ _ _ hy, eqGuard, binOp, Op.intBits]
 exact e2
theorem Run.shrU (n m : Nat) {b : Int} (ho : o.op = .binOp .shr t x y t') (hx : ev f x = some (.int .u64 (n : Int))) (hy : ev f y = some (.int k b)) (h0 : 0 ≤ b) (h1 : b ≤ 63) (hm : n / 2 ^ b.toNat = m) : Run P o f w (.value (.int .u64 (m : Int))) w := fun ρ hρ => by
 have e : Min.min b.toNat 64 = b.toNat := by omega
 have h2 : ¬ b < 0 := by omega
 have e4 : (n : Int) / 2 ^ b.toNat = (m : Int) := by rw [← hm]; simp
 have e3 : (n : Int).fdiv (2 ^ b.toNat) = (m : Int) := by
  rw [Int.fdiv_eq_ediv_of_nonneg _ (by exact Int.le_of_lt (Int.pow_pos (by decide))), e4]
 simp [execOp, ho, hρ _ _ hx, hρ _ _ hy, eqGuard, binOp, Op.shift, IntKind.bits, e, h2, e3, e4]
end
section
variable {w0 w w' : World} {T : List Nat} {R L1 L2 : Hp} {b : Nat} {o o' : Obj}
theorem St.takeP (w : World) (b : Nat) (o : Obj) (L1 : Hp) (hb : w.heap[b]? = some o) (h1 : ∀ p, p ∈ L1 → w.heap[p.1]? = some p.2) (hd : (b :: L1.map (·.1)).Nodup) : St w (b :: L1.map (·.1)) ((b, o) :: (L1 ++ [])) w := by
 have h := St.take w ((b, o) :: L1) (fun p hp => by
  rcases List.mem_cons.1 hp with rfl | hp
  ·exact hb
  ·exact h1 p hp) hd
 rw [List.append_nil]; exact h
theorem St.keepP (h : St w0 T ((b, o) :: (L1 ++ R)) w) : St w0 T ([(b, o)] ++ L1) w := h.drop (List.Sublist.cons_cons _ (List.sublist_append_left _ _))
theorem St.nodupP (h : St w0 T ((b, o) :: (L1 ++ R)) w) : (b :: L1.map (·.1)).Nodup := St.nodupL (L1 := (b, o) :: L1) (R := R) h
theorem St.lendP (h : St w0 T ((b, o) :: (L1 ++ R)) w) (h2 : St w (b :: L1.map (·.1)) ([(b, o')] ++ L2) w') : St w0 T ((b, o') :: (L2 ++ R)) w' := St.lend (A := (b, o) :: L1) (C := R) h h2
theorem St.headP (h : St w0 T ((b, o) :: (L1 ++ R)) w) : w.heap[b]? = some o := (h.own (b, o) List.mem_cons_self).1
theorem St.ownP (h : St w0 T ((b, o) :: (L1 ++ R)) w) : ∀ p, p ∈ L1 → w.heap[p.1]? = some p.2 := fun p hp => (h.own p (List.mem_cons_of_mem _ (List.mem_append_left _ hp))).1
theorem St.sepTP {α : Type} {F : Enc α} {A : Option Addr} {n : Nat} {xs : List α} (h : St w0 T ((b, o) :: (L1 ++ R)) w) (f : SlF F w0 A n xs) (s : 0 < n → (adr A).block ∉ T) : 0 < n → (adr A).block ∉ b :: L1.map (·.1) := St.sepT (L1 := (b, o) :: L1) (R := R) h f s
end
theorem Bag.put {α : Type} {own : α → Hp → Prop} {xs : List α} {x : α} {La Lb R : Hp} {w0 w : World} {T : List Nat} (hs : St w0 T (La ++ (Lb ++ R)) w) (b : Bag own xs La) (o : own x Lb) : ∃ L, St w0 T (L ++ R) w ∧ Bag own (xs ++ [x]) L := ⟨La ++ Lb, by rw [List.append_assoc]; exact hs, b.snoc o⟩
section
variable {α : Type} {F : Enc α} {own : α → Hp → Prop} {e : TypeId} {xs : List α} {L R : Hp} {A : Option Addr} {n c k : Nat} {w0 w : World} {T : List Nat}
theorem OwnF.dropE (h : OwnF F e (.slice A n c) xs L) (hk : k ≤ n) : ∃ L', OwnF F e (.slice (cutA A k F.sz c) (n - k) (c - k)) (xs.drop k) L' ∧ L'.Sublist L := by
 have hl := h.len_
 rcases h.2 with ⟨⟨A', hv⟩, h0, rfl⟩ | ⟨g, cap, o, pre, cl, fz, hv, rfl, hn, hc, hcl, ht, hfz, ho⟩
 ·cases hv
  obtain rfl : k = 0 := by omega
  have e1 : xs = [] := List.eq_nil_of_length_eq_zero (by omega)
  subst e1
  exact ⟨[], by simpa [cutA] using OwnF.nilA F e A, List.Sublist.refl _⟩
 ·cases hv
  by_cases hkc : c = k
  ·have e1 : xs.drop k = [] := List.drop_of_length_le (by omega)
   rw [e1, show xs.length - k = 0 by omega, show c - k = 0 by omega]
   exact ⟨[], OwnF.nilA F e _, List.nil_sublist _⟩
  ·have e2 : cutA (some ⟨g, o, none⟩) k F.sz c = some ⟨g, o + k * F.sz, none⟩ := by
    unfold cutA
    rw [if_neg hkc]
    simp only [Option.map_some, addr_at]
   have hkl : k * F.sz ≤ cl.length := by rw [hcl]; exact Nat.mul_le_mul_right _ (by omega)
   have hdl : (xs.drop k).length = xs.length - k := List.length_drop
   rw [e2]
   refine ⟨_, ⟨by rw [rows_len], .inr ⟨g, c - k, o + k * F.sz, pre ++ cl.take (k * F.sz), cl.drop (k * F.sz), fz, by rw [hdl], rfl, by rw [hdl]; omega, by omega, by rw [List.length_drop, hcl, Nat.sub_mul], ?_, ?_, ?_⟩⟩, ?_⟩
   ·rw [hdl, Nat.sub_mul, ← List.drop_take, ht, rows_drop]
   ·rw [List.append_assoc, List.take_append_drop]; exact hfz
   ·rw [List.length_append, List.length_take, ho]; omega
   ·rw [List.append_assoc, List.take_append_drop]; exact List.Sublist.refl _
theorem Bag.dropK (b : Bag own xs L) : ∃ L', Bag own (xs.drop k) L' ∧ L'.Sublist L := by
 obtain ⟨La, Lb, rfl, h1, h2⟩ := Bag.split (xs := xs.take k) (ys := xs.drop k) (L := L) (by rwa [List.take_append_drop])
 exact ⟨Lb, h2, List.sublist_append_right _ _⟩
theorem OwnN.dropE (h : OwnN F own e (.slice A n c) xs L) (hk : k ≤ n) (hs : St w0 T (L ++ R) w) : ∃ L', St w0 T (L' ++ R) w ∧ OwnN F own e (.slice (cutA A k F.sz c) (n - k) (c - k)) (xs.drop k) L' := by
 obtain ⟨L0, Lb, rfl, h1, h2⟩ := h
 obtain ⟨L0', h3, h4⟩ := h1.dropE hk
 obtain ⟨Lb', h5, h6⟩ := h2.dropK (k := k)
 exact ⟨L0' ++ Lb', hs.drop (List.Sublist.append_right (List.Sublist.append h4 h6) R), L0', Lb', rfl, h3, h5⟩
theorem OwnF.spare (h : OwnF F e (.slice A n c) xs L) (hq : n < c) : ∃ (g : Nat) (pre cl : List Value) (lo hi : Nat), A = some ⟨g, pre.length, none⟩ ∧ L = [(g, .cells (pre ++ cl).toArray e (lo, hi))] ∧ (hi ≤ lo ∨ (pre ++ cl).length ≤ lo) ∧ cl.length = c * F.sz ∧
  ∀ cl' : List Value, cl'.length = cl.length → cl'.take (n * F.sz) = cl.take (n * F.sz) → OwnF F e (.slice A n c) xs [(g, .cells (pre ++ cl').toArray e (lo, hi))] := by
 have hl := h.len_
 rcases h.2 with ⟨⟨A', hv⟩, h0', rfl⟩ | ⟨g, cap, o, pre, cl, ⟨lo, hi'⟩, hv, rfl, hn, hc, hcl, ht, hfz, rfl⟩
 ·cases hv; omega
 ·cases hv
  refine ⟨g, pre, cl, lo, hi', rfl, rfl, hfz, hcl, fun cl' h1 h2 => ⟨h.1, .inr ⟨g, c, pre.length, pre, cl', (lo, hi'), rfl, rfl, hn, hc, by rw [h1, hcl], ?_, by rw [List.length_append, h1, ← List.length_append]; exact hfz, rfl⟩⟩⟩
  rw [hl, h2, ← hl, ht]
end
section
variable {α : Type} {F : Enc α} {P : Program} {w0 w : World} {T : List Nat} {n : Nat} {ol : List Oper} {o : Oper} {rest : List Oper} {f : Fr} {d : Nat} {K : Fr → World → Prop}
theorem WL.clearT {L1 R : Hp} {xs : List α} {A : Option Addr} {m c q cq : Nat} {e t : TypeId} {z : Value} {x : Operand} (hst : St w0 T (L1 ++ R) w) (hown : OwnF F e (.slice A m c) xs L1) (ht : P.underlying t = some (.slice e)) (hzv : ∀ w, (zeroValue e).run P w = .ok z w) (hz : cellsOf z = F.enc F.dflt)
  (ho : o.op = .call { callee := .builtin .clear, args := #[x], argTypes := #[t] }) (hw : want ol o f = some true) (hd : o.dst = none) (hx : ev f x = some (.slice (cutA A m F.sz c) q cq)) (hlo : m + q ≤ c)
  (k : ∀ L1' w', St w0 T (L1' ++ R) w' → OwnF F e (.slice A m c) xs L1' → WL P n ol rest K f w') : WL P n ol (o :: rest) K f w := by
 by_cases h0 : q = 0
 ·refine WL.eff (w' := w) (v := .tuple #[]) hw hd (fun ρ hρ => ?_) (k L1 w hst hown)
  rw [h0] at hx
  simp [execOp, ho, hρ _ _ hx, resolve, invoke, builtin, Builtin.clear_, run_underlying ht]
  cases cutA A m F.sz c <;> simp
 ·obtain ⟨g, pre, cl, a, b, rfl, rfl, hfz, hcl, hupd⟩ := hown.spare (by omega)
  have hpl : (pre ++ cl).length = pre.length + cl.length := List.length_append
  have hrl : (rows F (List.replicate q F.dflt)).length = q * F.sz := by rw [rows_len]; simp
  have e0 : (m + q) * F.sz = m * F.sz + q * F.sz := Nat.add_mul _ _ _
  have e1 : (m + q) * F.sz ≤ c * F.sz := Nat.mul_le_mul_right _ hlo
  obtain ⟨w', hr, hs'⟩ := hst.stored (P := P) 0 (off := pre.length + m * F.sz) (vs := rows F (List.replicate q F.dflt)) rfl rows_one (by rw [hrl, hpl]; omega) (by rcases hfz with h | h <;> omega)
  rw [splice_pre] at hs'
  have e2 : cutA (some ⟨g, pre.length, none⟩) m F.sz c = some ⟨g, pre.length + m * F.sz, none⟩ := by
   unfold cutA
   rw [if_neg (by omega)]
   simp only [Option.map_some, addr_at]
  rw [e2] at hx
  refine WL.eff (w' := w') (v := .tuple #[]) hw hd (fun ρ hρ => ?_) (k [(g, .cells (pre ++ (cl.take (m * F.sz) ++ rows F (List.replicate q F.dflt) ++ cl.drop (m * F.sz + (rows F (List.replicate q F.dflt)).length))).toArray e (a, b))] w' hs' (hupd _ ?_ ?_))
  ·obtain ⟨q', hq⟩ : ∃ q', q = q' + 1 := ⟨q - 1, by omega⟩
   rw [hq] at hx hr
   simp [execOp, ho, hρ _ _ hx, resolve, invoke, builtin, Builtin.clear_, run_underlying ht, hzv, zeros_rows hz, hr]
  ·simp only [List.length_append, List.length_take, List.length_drop, hrl]; omega
  ·have e3 : (cl.take (m * F.sz)).length = m * F.sz := by rw [List.length_take]; omega
   rw [List.append_assoc, List.take_append_of_le_length (by omega), List.take_take, Nat.min_self]
end
section
variable {P : Program} {w : World} {o : Oper} {f : Fr} {t e : TypeId} {x y z v : Operand} {A : Option Addr} {n c sz : Nat} {k k' k'' : IntKind} {a b d : Int}
theorem Run.sliceT (lo hi : Nat) (hu : ∀ w, (underlying t).run P w = .ok (.slice e) w) (hz : ∀ w, (sizeOf e).run P w = .ok sz w) (ho : o.op = .slice t x (some y) (some z) none) (hx : ev f x = some (.slice A n c)) (hy : ev f y = some (.int k a)) (hw : ev f z = some (.int k' b))
  (ha : a = (lo : Int)) (hb : b = (hi : Int)) (h : lo ≤ hi ∧ hi ≤ c) : Run P o f w (.value (.slice (cutA A lo sz c) (hi - lo) (c - lo))) w := fun ρ hρ => by
 subst ha hb
 have h1 : lo ≤ hi := by omega
 have h2 : hi ≤ c := by omega
 simp [execOp, ho, hρ _ _ hx, hρ _ _ hy, hρ _ _ hw, Instr.sliceAt, Instr.slice, Instr.sliceBounds, Instr.sliceBound, asIntOf, hu, hz, cutA, h1, h2]
theorem Run.slice3 (lo hi mx : Nat) (hu : ∀ w, (underlying t).run P w = .ok (.slice e) w) (hz : ∀ w, (sizeOf e).run P w = .ok sz w) (ho : o.op = .slice t x (some y) (some z) (some v)) (hx : ev f x = some (.slice A n c)) (hy : ev f y = some (.int k a)) (hw : ev f z = some (.int k' b)) (hv : ev f v = some (.int k'' d))
  (ha : a = (lo : Int)) (hb : b = (hi : Int)) (hd : d = (mx : Int)) (h : lo ≤ hi ∧ hi ≤ mx ∧ mx ≤ c) : Run P o f w (.value (.slice (cutA A lo sz mx) (hi - lo) (mx - lo))) w := fun ρ hρ => by
 subst ha hb hd
 obtain ⟨h1, h2, h3⟩ := h
 simp [execOp, ho, hρ _ _ hx, hρ _ _ hy, hρ _ _ hw, hρ _ _ hv, Instr.sliceAt, Instr.slice, Instr.sliceBounds, Instr.sliceBound, asIntOf, hu, hz, cutA, h1, h2, h3]
end
section
variable {P : Program} {ops : Array Oper} {Q : Exit → Act → World → Prop} {md : Region.Mode} {S S1 : World → Prop} {k : Nat}
def wpAnyG (P : Program) (md : Region.Mode) (ops : Array Oper) (Q : Exit → Act → World → Prop) (k : Nat) (S1 S : World → Prop) : Nat → Array Bool → Act → World → Prop
 | 0, listed, a, w => Region.ready md ops listed = [] ∧ Q .normal a w
 | fuel + 1, listed, a, w =>
  (Region.ready md ops listed = [] → Q .normal a w) ∧
  ∀ i ∈ Region.ready md ops listed, (i = k → wpOp P ops Q i (fun a' w' => S w' ∧ wpAnyH P md ops Q S fuel (listed.setIfInBounds i true) a' w') a w) ∧
   (i ≠ k → wpOp P ops Q i (fun a' w' => S1 w' ∧ wpAnyG P md ops Q k S1 S fuel (listed.setIfInBounds i true) a' w') a w)
theorem wpAny_of_gate : ∀ (fuel : Nat) (listed : Array Bool) (a : Act) (w : World), wpAnyG P md ops Q k S1 S fuel listed a w → wpAny P md ops Q fuel listed a w
 | 0, _, _, _, h => h
 | fuel + 1, _, _, _, h => ⟨h.1, fun i hi => by
  by_cases e : i = k
  ·exact wpOp_mono (fun a' w' h' => wpAny_of_held fuel _ a' w' h'.2) ((h.2 i hi).1 e)
  ·exact wpOp_mono (fun a' w' h' => wpAny_of_gate fuel _ a' w' h'.2) ((h.2 i hi).2 e)⟩
theorem wpAnyG_first {i : Nat} {oi ok : Oper} {v : Value} (hi : ops[i]? = some oi) (hok : ops[k]? = some ok) (hdep : ∃ e ∈ ok.after, Region.binds md e = true ∧ e.on = i) (hik : i ≠ k) (hsel : ∀ (j : Nat) (o : Oper) cs b, ops[j]? = some o → o.op ≠ .select cs b)
  (hQ : ∀ c a w, Q (.panic c) (a.put oi.dst v) w → Q (.panic c) a w) :
  ∀ (fuel : Nat) (listed : Array Bool) (a : Act) (w : World),
   (∀ j oj, ops[j]? = some oj → j ≠ i → listed.getD j true = false → (∀ e ∈ oj.after, Region.binds md e = true → e.on ≠ i) → oi.apart ops oj = true) →
   i ∈ Region.ready md ops listed → YieldsIf P ops S1 oi v a → S1 w →
   wpAnyG P md ops Q k S1 S fuel (listed.setIfInBounds i true) (a.put oi.dst v) w → wpAnyG P md ops Q k S1 S (fuel + 1) listed a w := by
 intro fuel
 have hnotk : ∀ (listed : Array Bool), i ∈ Region.ready md ops listed → k ∉ Region.ready md ops listed := by
  intro listed hr hk
  obtain ⟨e, he, hb, hon⟩ := hdep
  obtain ⟨_, o', ho', hall⟩ := mem_ready.1 hk
  rw [hok] at ho'
  cases ho'
  have h1 := hall e he hb
  have h0 := (mem_ready.1 hr).1
  rw [hon] at h1
  rcases Nat.lt_or_ge i listed.size with h' | h'
  ·simp [h'] at h0 h1; rw [h0] at h1; cases h1
  ·simp [Array.getElem?_eq_none h'] at h1
 induction fuel with
 | zero =>
  intro listed a w _ hr hy hS H
  refine ⟨fun h => (by rw [h] at hr; cases hr), fun j hj => ⟨fun e => absurd (e ▸ hj) (hnotk _ hr), fun _ => ?_⟩⟩
  by_cases hji : j = i
  ·subst hji; exact hy.wpOp hi hS ⟨hS, H⟩
  ·have := ready_mono hj hji
   rw [H.1] at this
   cases this
 | succ fuel ih =>
  intro listed a w hfree hr hy hS H
  refine ⟨fun h => (by rw [h] at hr; cases hr), fun j hj => ⟨fun e => absurd (e ▸ hj) (hnotk _ hr), fun hjk0 => ?_⟩⟩
  by_cases hji : j = i
  ·subst hji; exact hy.wpOp hi hS ⟨hS, H⟩
  ·have h1 := (H.2 j (ready_mono hj hji)).2 hjk0
   obtain ⟨hjun, oj, hoj, hall⟩ := mem_ready.1 hj
   have hnot : ∀ e ∈ oj.after, Region.binds md e = true → e.on ≠ i := fun e he hb heq => by
    have h1 := hall e he hb
    have h0 := (mem_ready.1 hr).1
    rw [heq] at h1
    rcases Nat.lt_or_ge i listed.size with h' | h'
    ·simp [h'] at h0 h1; rw [h0] at h1; cases h1
    ·simp [Array.getElem?_eq_none h'] at h1
   have h2 := wpOp_putIf hoj (hfree j oj hoj hji hjun hnot) (fun cs b => hsel i oi cs b hi) (fun cs b => hsel j oj cs b hoj) hQ hy h1
   have hfree' : ∀ q oq, ops[q]? = some oq → q ≠ i → (listed.setIfInBounds j true).getD q true = false →
     (∀ e ∈ oq.after, Region.binds md e = true → e.on ≠ i) → oi.apart ops oq = true := fun q oq hq hqi hun hno => by
    refine hfree q oq hq hqi ?_ hno
    by_cases hjq : j = q
    ·subst hjq; exact hjun
    ·rw [getD_set_ne true hjq] at hun; exact hun
   refine wpOp_mono (fun a' w' h3 => ⟨h3.2.1, ih (listed.setIfInBounds j true) a' w' hfree' (ready_mono hr (Ne.symm hji)) h3.1 h3.2.1 ?_⟩) h2
   rw [Array.setIfInBounds_comm _ _ hji]
   exact h3.2.2
theorem wpAnyG_firstB {i : Nat} {oi : Oper} {v : Value} (hi : ops[i]? = some oi) (hsel : ∀ (j : Nat) (o : Oper) cs b, ops[j]? = some o → o.op ≠ .select cs b)
  (hQ : ∀ c a w, Q (.panic c) (a.put oi.dst v) w → Q (.panic c) a w) (hik : i ≠ k) :
  ∀ (fuel : Nat) (listed : Array Bool) (a : Act) (w : World),
   (∀ j oj, ops[j]? = some oj → j ≠ i → listed.getD j true = false → (∀ e ∈ oj.after, Region.binds md e = true → e.on ≠ i) → oi.apart ops oj = true) →
   i ∈ Region.ready md ops listed → YieldsIf P ops (fun _ => True) oi v a → S1 w →
   wpAnyG P md ops Q k S1 S fuel (listed.setIfInBounds i true) (a.put oi.dst v) w → wpAnyG P md ops Q k S1 S (fuel + 1) listed a w := by
 intro fuel
 induction fuel with
 | zero =>
  intro listed a w _ hr hy hS H
  refine ⟨fun h => (by rw [h] at hr; cases hr), fun j hj => ⟨fun e => ?_, fun _ => ?_⟩⟩
  ·have := ready_mono hj (e ▸ Ne.symm hik)
   rw [H.1] at this
   cases this
  ·by_cases hji : j = i
   ·subst hji; exact hy.wpOp hi trivial ⟨hS, H⟩
   ·have := ready_mono hj hji
    rw [H.1] at this
    cases this
 | succ fuel ih =>
  intro listed a w hfree hr hy hS H
  refine ⟨fun h => (by rw [h] at hr; cases hr), fun j hj => ?_⟩
  by_cases hji : j = i
  ·subst hji
   exact ⟨fun e => absurd e hik, fun _ => hy.wpOp hi trivial ⟨hS, H⟩⟩
  ·have h1 := H.2 j (ready_mono hj hji)
   obtain ⟨hjun, oj, hoj, hall⟩ := mem_ready.1 hj
   have hnot : ∀ e ∈ oj.after, Region.binds md e = true → e.on ≠ i := fun e he hb heq => by
    have h1 := hall e he hb
    have h0 := (mem_ready.1 hr).1
    rw [heq] at h1
    rcases Nat.lt_or_ge i listed.size with h' | h'
    ·simp [h'] at h0 h1; rw [h0] at h1; cases h1
    ·simp [Array.getElem?_eq_none h'] at h1
   have hfree' : ∀ q oq, ops[q]? = some oq → q ≠ i → (listed.setIfInBounds j true).getD q true = false →
     (∀ e ∈ oq.after, Region.binds md e = true → e.on ≠ i) → oi.apart ops oq = true := fun q oq hq hqi hun hno => by
    refine hfree q oq hq hqi ?_ hno
    by_cases hjq : j = q
    ·subst hjq; exact hjun
    ·rw [getD_set_ne true hjq] at hun; exact hun
   refine ⟨fun e => ?_, fun e => ?_⟩
   ·have h2 := wpOp_putIf hoj (hfree j oj hoj hji hjun hnot) (fun cs b => hsel i oi cs b hi) (fun cs b => hsel j oj cs b hoj) hQ hy (h1.1 e)
    refine wpOp_mono (fun a' w' h3 => ⟨h3.2.1, wpAnyH_first hi hsel hQ fuel (listed.setIfInBounds j true) a' w' hfree' (ready_mono hr (Ne.symm hji)) ?_ h3.2.1 ?_⟩) h2
    ·exact h3.1.imp (fun q => ⟨q.1, fun w _ => q.2 w trivial⟩) id
    ·rw [Array.setIfInBounds_comm _ _ hji]
     exact h3.2.2
   ·have h2 := wpOp_putIf hoj (hfree j oj hoj hji hjun hnot) (fun cs b => hsel i oi cs b hi) (fun cs b => hsel j oj cs b hoj) hQ hy (h1.2 e)
    refine wpOp_mono (fun a' w' h3 => ⟨h3.2.1, ih (listed.setIfInBounds j true) a' w' hfree' (ready_mono hr (Ne.symm hji)) h3.1 h3.2.1 ?_⟩) h2
    rw [Array.setIfInBounds_comm _ _ hji]
    exact h3.2.2
end
def WG (P : Program) (n : Nat) (ol : List Oper) (k : Nat) (S1 S : World → Prop) (fuel : Nat) (listed : List Bool) (K : Fr → World → Prop) (f : Fr) (w : World) : Prop :=
 ∀ (Q : Exit → Act → World → Prop) (a : Act), (∀ c a w, ¬ Q (.panic c) a w) → Good a n f → (∀ a' f' w', Good a' n f' → K f' w' → Q .normal a' w') → wpAnyG P .any ol.toArray Q k S1 S fuel listed.toArray a w
def waits (ol : List Oper) (k i : Nat) : Bool := match nthO ol k with
 | some o => o.after.toList.any (fun e => Region.binds .any e && Nat.beq e.on i) && !Nat.beq i k
 | none => false
section
variable {P : Program} {n : Nat} {ol : List Oper} {o : Oper} {K : Fr → World → Prop} {f : Fr} {w : World} {d : Nat} {v : Value} {S S1 : World → Prop} {fuel k : Nat} {listed : List Bool}
theorem WC.regionG {id : Nat} {l : List Oper} {Q : Kont} (k : Nat) (S S1 S2 : World → Prop) (hm : P.follows .mixedOrders = true)
  (_h0 : S { heap := w.heap, tape := w.tape, drawn := w.drawn + 1, os := w.os, output := w.output }) (_h1 : S1 { heap := w.heap, tape := w.tape, drawn := w.drawn + 1, os := w.os, output := w.output })
  (hS1 : S2 { heap := w.heap, tape := w.tape, drawn := w.drawn + 1, os := w.os, output := w.output })
  (h : ∀ w', S2 w' → WG P n l k S1 S l.length (List.replicate l.length false) (fun f w => Q .normal f w) f w') : WC P n (.region id l.toArray true) Q f w := fun a ha => by
 refine wp_region_noPanic (wp_region_any hm (wpAny_of_gate (k := k) (S1 := S1) (S := S) _ _ _ _ ?_))
 have e : (Array.replicate l.toArray.size false) = (List.replicate l.length false).toArray := by simp
 rw [e]
 have e2 : l.toArray.size = l.length := by simp
 rw [e2]
 exact h _ hS1 (NoPanic (qa n Q)) a (fun c a w hh => hh) ha (fun a' f' w' hg hk => ⟨f', hg, hk⟩)
theorem waits_dep {i : Nat} (h : waits ol k i = true) : ∃ ok, ol.toArray[k]? = some ok ∧ (∃ e ∈ ok.after, Region.binds .any e = true ∧ e.on = i) ∧ i ≠ k := by
 unfold waits at h
 split at h
 ·rename_i ok ho
  simp only [Bool.and_eq_true, List.any_eq_true, Bool.not_eq_true'] at h
  obtain ⟨⟨e, he, h1, h2⟩, h3⟩ := h
  refine ⟨ok, by rw [List.getElem?_toArray, ← nthO_eq]; exact ho, ⟨e, Array.mem_toList_iff.1 he, h1, Nat.eq_of_beq_eq_true h2⟩, ?_⟩
  rintro rfl
  rw [Nat.beq_refl] at h3; cases h3
 ·cases h
theorem WG.take (i : Nat) (hi : nthO ol i = some o) (hb : canTake ol listed i = true) (hkw : waits ol k i = true) (hw : want ol o f = some true) (hd : o.dst = some d) (hn : Nat.blt d n = true) (hS : S1 w) (hy : ∀ w, S1 w → Run P o f w (.value v) w)
  (kk : WG P n ol k S1 S fuel (setB listed i) K ((d, v) :: f) w) : WG P n ol k S1 S (fuel + 1) listed K f w := fun Q a hp ha hk => by
 simp only [canTake, Bool.and_eq_true] at hb
 have hi' : ol.toArray[i]? = some o := by rw [List.getElem?_toArray, ← nthO_eq]; exact hi
 obtain ⟨ok, h1, h2, h3⟩ := waits_dep hkw
 refine wpAnyG_first (v := v) hi' h1 h2 h3 (Region.noSelect_spec hb.1.1) (fun c a w hh => absurd hh (hp _ _ _)) fuel _ _ _ (Region.free_spec hi' hb.1.2) (by simpa using hb.2) (.inl ⟨want_eq ha hw, fun w hSw => hy w hSw a.eval fun x u hx => ha.ev hx⟩) hS ?_
 have := kk Q _ hp (ha.put hn v) hk
 rw [setB_eq] at this
 rw [hd]
 simpa using this
theorem WG.takeSkip (i : Nat) (hi : nthO ol i = some o) (hb : canTake ol listed i = true) (hkw : waits ol k i = true) (hw : want ol o f = some false) (hd : o.dst = some d) (hn : Nat.blt d n = true) (hS : S1 w)
  (kk : WG P n ol k S1 S fuel (setB listed i) K ((d, undef) :: f) w) : WG P n ol k S1 S (fuel + 1) listed K f w := fun Q a hp ha hk => by
 simp only [canTake, Bool.and_eq_true] at hb
 have hi' : ol.toArray[i]? = some o := by rw [List.getElem?_toArray, ← nthO_eq]; exact hi
 obtain ⟨ok, h1, h2, h3⟩ := waits_dep hkw
 refine wpAnyG_first (v := undef) hi' h1 h2 h3 (Region.noSelect_spec hb.1.1) (fun c a w hh => absurd hh (hp _ _ _)) fuel _ _ _ (Region.free_spec hi' hb.1.2) (by simpa using hb.2) (.inr ⟨want_eq ha hw, rfl⟩) hS ?_
 have := kk Q _ hp (ha.put hn undef) hk
 rw [setB_eq] at this
 rw [hd]
 simpa using this
theorem WG.takeB (i : Nat) (hi : nthO ol i = some o) (hb : canTake ol listed i = true) (hik : Nat.beq i k = false) (hw : want ol o f = some true) (hd : o.dst = some d) (hn : Nat.blt d n = true) (hS : S1 w) (hy : ∀ w, Run P o f w (.value v) w)
  (kk : WG P n ol k S1 S fuel (setB listed i) K ((d, v) :: f) w) : WG P n ol k S1 S (fuel + 1) listed K f w := fun Q a hp ha hk => by
 simp only [canTake, Bool.and_eq_true] at hb
 have hi' : ol.toArray[i]? = some o := by rw [List.getElem?_toArray, ← nthO_eq]; exact hi
 refine wpAnyG_firstB (v := v) hi' (Region.noSelect_spec hb.1.1) (fun c a w hh => absurd hh (hp _ _ _)) (by rintro rfl; rw [Nat.beq_refl] at hik; cases hik) fuel _ _ _ (Region.free_spec hi' hb.1.2) (by simpa using hb.2) (.inl ⟨want_eq ha hw, fun w _ => hy w a.eval fun x u hx => ha.ev hx⟩) hS ?_
 have := kk Q _ hp (ha.put hn v) hk
 rw [setB_eq] at this
 rw [hd]
 simpa using this
def WGs (P : Program) (n : Nat) (ol : List Oper) (k : Nat) (S1 S : World → Prop) (fuel : Nat) (listed : List Bool) (K : Fr → World → Prop) (f : Fr) (w : World) (rs : List Nat) : Prop :=
 ∀ i, i ∈ rs → ∃ o, nthO ol i = some o ∧ ((i = k ∧ WL P n ol [o] (fun f' w' => S w' ∧ WH P n ol S fuel (setB listed i) K f' w') f w) ∨ (i ≠ k ∧ WL P n ol [o] (fun f' w' => S1 w' ∧ WG P n ol k S1 S fuel (setB listed i) K f' w') f w))
theorem WGs.nil : WGs P n ol k S1 S fuel listed K f w [] := fun _ h => by cases h
theorem WGs.cons {i : Nat} {rs : List Nat} (hi : nthO ol i = some o) (hne : Nat.beq i k = false) (h : WL P n ol [o] (fun f' w' => S1 w' ∧ WG P n ol k S1 S fuel (setB listed i) K f' w') f w) (hr : WGs P n ol k S1 S fuel listed K f w rs) : WGs P n ol k S1 S fuel listed K f w (i :: rs) := fun j hj => by
 rcases List.mem_cons.1 hj with rfl | hj
 ·exact ⟨o, hi, .inr ⟨(by rintro rfl; rw [Nat.beq_refl] at hne; cases hne), h⟩⟩
 ·exact hr j hj
theorem WGs.consK {rs : List Nat} (hi : nthO ol k = some o) (h : WL P n ol [o] (fun f' w' => S w' ∧ WH P n ol S fuel (setB listed k) K f' w') f w) (hr : WGs P n ol k S1 S fuel listed K f w rs) : WGs P n ol k S1 S fuel listed K f w (k :: rs) := fun j hj => by
 rcases List.mem_cons.1 hj with rfl | hj
 ·exact ⟨o, hi, .inl ⟨rfl, h⟩⟩
 ·exact hr j hj
theorem wpOp_one {K1 : Act → World → Prop} {Q : Exit → Act → World → Prop} {a : Act} {i : Nat} (hi' : ol.toArray[i]? = some o) (h1 : wpList P ol.toArray (Exit.then K1 Q) [o] a w) : wpOp P ol.toArray Q i K1 a w := by
 unfold wpOp
 rw [hi']
 show if Region.wanted o (yielded ol.toArray a.tmps) = true then _ else _
 unfold wpList at h1
 split
 ·rename_i hwd
  rw [if_pos hwd] at h1
  exact wp_then h1
 ·rename_i hwd
  rw [if_neg hwd] at h1
  exact h1
theorem WG.all (rs : List Nat) (hr : Region.ready .any ol.toArray listed.toArray = rs) (hne : rs.isEmpty = false) (h : WGs P n ol k S1 S fuel listed K f w rs) : WG P n ol k S1 S (fuel + 1) listed K f w := fun Q a hp ha hk => by
 refine ⟨fun h0 => ?_, fun i hi => ?_⟩
 ·rw [hr] at h0; subst h0; cases hne
 ·rw [hr] at hi
  obtain ⟨o, ho, hw⟩ := h i hi
  have hi' : ol.toArray[i]? = some o := by rw [List.getElem?_toArray, ← nthO_eq]; exact ho
  rcases hw with ⟨e, hw⟩ | ⟨e, hw⟩
  ·refine ⟨fun _ => ?_, fun e2 => absurd e e2⟩
   refine wpOp_one hi' (hw (Exit.then (fun a' w' => S w' ∧ wpAnyH P .any ol.toArray Q S fuel (listed.toArray.setIfInBounds i true) a' w') Q) a ha (fun a' f' w' hg hh => ⟨hh.1, by
    have := hh.2 Q a' hp hg hk
    rw [setB_eq] at this
    simpa using this⟩))
  ·refine ⟨fun e2 => absurd e2 e, fun _ => ?_⟩
   refine wpOp_one hi' (hw (Exit.then (fun a' w' => S1 w' ∧ wpAnyG P .any ol.toArray Q k S1 S fuel (listed.toArray.setIfInBounds i true) a' w') Q) a ha (fun a' f' w' hg hh => ⟨hh.1, by
    have := hh.2 Q a' hp hg hk
    rw [setB_eq] at this
    simpa using this⟩))
theorem WG.split {g : Bool} (s : Nat) (_hs : lk f s = some (.bool g)) (hT : g = true → WG P n ol k S1 S fuel listed K f w) (hF : g = false → WG P n ol k S1 S fuel listed K f w) : WG P n ol k S1 S fuel listed K f w := by
 cases h : g
 ·exact hF h
 ·exact hT h
theorem WG.strS {w0 : World} {T : List Nat} {L : Hp} (_hs : St w0 T L w) (hi : ∀ w', St w0 T L w' → S1 w') (h : WG P n ol k (fun w' => St w0 T L w') S fuel listed K f w) : WG P n ol k S1 S fuel listed K f w := fun Q a hp ha hk => by
 have key : ∀ (fuel : Nat) (listed : Array Bool) (a : Act) (w : World), wpAnyG P .any ol.toArray Q k (fun w' => St w0 T L w') S fuel listed a w → wpAnyG P .any ol.toArray Q k S1 S fuel listed a w := by
  intro fuel
  induction fuel with
  | zero => intro listed a w h; exact h
  | succ fuel ih => intro listed a w h; exact ⟨h.1, fun i hi' => ⟨(h.2 i hi').1, fun e => wpOp_mono (fun a' w' h' => ⟨hi _ h'.1, ih _ _ _ h'.2⟩) ((h.2 i hi').2 e)⟩⟩
 exact key _ _ _ _ (h Q a hp ha hk)
end
section
variable {α : Type} {F : Enc α} {P : Program} {w0 w : World} {T : List Nat} {n : Nat} {ol : List Oper} {o : Oper} {rest : List Oper} {f : Fr} {d : Nat} {K : Fr → World → Prop}
theorem WL.storeC {v : Value} {L1 R : Hp} {xs : List α} {x' : α} {A : Option Addr} {m c lo j sz : Nat} {e : TypeId} {t : TypeId} {x y : Operand} {vs : List Value} (hst : St w0 T (L1 ++ R) w) (hown : OwnF F e (.slice A m c) xs L1) (hz : ∀ w, (sizeOf t).run P w = .ok sz w) (ho : o.op = .store t x y) (hw : want ol o f = some true) (hd : o.dst = none)
  (hx : ev f x = some (.pointer (some ((adr (cutA A lo F.sz c)).add (j * F.sz))))) (hy : ev f y = some v) (hvs : cellsOf v = vs) (h1 : vs.all (·.oneCell') = true) (hsz : Nat.beq vs.length sz = true) (hoff : Nat.beq sz F.sz = true) (hi : lo + j < m)
  (hx' : F.enc x' = vs)
  (k : ∀ L1' w', St w0 T (L1' ++ R) w' → OwnF F e (.slice A m c) (xs.set (lo + j) x') L1' → L1'.map (·.1) = L1.map (·.1) → WL P n ol rest K f w') : WL P n ol (o :: rest) K f w := by
 have hc := hown.cap
 obtain ⟨g, pre, cl, a, b, hA, _⟩ := hown.upd hi
 have ea : (adr (cutA A lo F.sz c)).add (j * F.sz) = (adr A).add ((lo + j) * F.sz) := by
  rw [hA]
  unfold cutA
  rw [if_neg (by omega)]
  show ((⟨g, pre.length, none⟩ : Addr).add (lo * F.sz)).add (j * F.sz) = (⟨g, pre.length, none⟩ : Addr).add _
  rw [Addr.add_add', Nat.add_mul]
 exact WL.storeF1 hst hown hz ho hw hd (by rw [← ea]; exact hx) hy hvs h1 hsz hoff hi hx' k
end
section
variable {α : Type} {F : Enc α} {P : Program} {w0 w : World} {T : List Nat} {n : Nat} {ol : List Oper} {o : Oper} {rest : List Oper} {f : Fr} {d : Nat} {K : Fr → World → Prop}
theorem WL.appendR {L1 R : Hp} {xs ys : List α} {A : Option Addr} {k c : Nat} {t tx e : TypeId} {i : TypeInfo} {x : Value} {s y : Operand} (hst : St w0 T (L1 ++ R) w) (hown : OwnF F e (.slice A k c) xs L1) (hs : Src P F.sz tx x ys.length (rows F ys) w) (ht : P.underlying t = some (.slice e)) (hi : P.info? e = some i) (hs1 : Nat.beq i.size F.sz = true)
  (ho : o.op = .call { callee := .builtin .append, args := #[s, y], argTypes := #[t, tx] }) (hw : want ol o f = some true) (hd : o.dst = some d) (hn : Nat.blt d n = true) (hx : ev f s = some (.slice A k c)) (hy : ev f y = some x) (hroom : k + ys.length ≤ c) (hc0 : 0 < c)
  (kk : ∀ L1' w', St w0 T (L1' ++ R) w' → OwnF F e (.slice A (k + ys.length) c) (xs ++ ys) L1' → WL P n ol rest K ((d, .slice A (k + ys.length) c) :: f) w') : WL P n ol (o :: rest) K f w := by
 have hs1' := Nat.eq_of_beq_eq_true hs1
 have hlk := hown.len_
 rcases hown.2 with ⟨⟨A', hv⟩, h0, rfl⟩ | ⟨g, cap, o', pre, cl, fz, hv, rfl, hn', hc, hl, htk, hfz, rfl⟩
 ·cases hv; omega
 ·cases hv
  have hfit : xs.length * F.sz + (rows F ys).length ≤ cl.length := by rw [rows_len, hl, ← Nat.add_mul]; exact Nat.mul_le_mul_right _ hroom
  have hpl : (pre ++ cl).length = pre.length + cl.length := List.length_append
  obtain ⟨w', hr, hs'⟩ := hst.stored (P := P) 0 (off := pre.length + xs.length * F.sz) (vs := rows F ys) rfl hs.one (by rw [hpl]; omega) (by rcases hfz with h | h <;> omega)
  rw [splice_pre] at hs'
  refine WL.val (w' := w') (v := .slice (some ⟨g, pre.length, none⟩) (xs.length + ys.length) c) hw hd hn (fun ρ hρ => ?_) (kk [(g, .cells (pre ++ (cl.take (xs.length * F.sz) ++ rows F ys ++ cl.drop (xs.length * F.sz + (rows F ys).length))).toArray e fz)] w' hs' ?_)
  ·rcases hs.kind with ⟨e', hk⟩ | hk <;> simp [execOp, ho, hρ _ _ hx, hρ _ _ hy, resolve, invoke, builtin, Builtin.append_, run_underlying ht, run_underlying hk, sizeOf, typeInfo, hi, hs.len, hroom, hs.cells, addr_at, hs1', hr]
  ·have hxl : xs.length = xs.length := rfl
   refine ⟨by rw [rows_len], .inr ⟨g, c, _, pre, _, fz, by rw [List.length_append], rfl, by rw [List.length_append]; exact hroom, hc, ?_, ?_, ?_, rfl⟩⟩
   ·simp only [List.length_append, List.length_take, List.length_drop]; omega
   ·rw [rows_append, List.length_append, Nat.add_mul]
    have e1 : (cl.take (xs.length * F.sz)).length = xs.length * F.sz := by rw [List.length_take]; omega
    have e2 : rows F xs = cl.take (xs.length * F.sz) := htk.symm
    have e3 : (cl.take (xs.length * F.sz) ++ rows F ys).length = xs.length * F.sz + ys.length * F.sz := by rw [List.length_append, e1, rows_len]
    rw [e2, ← e3]; exact List.take_left
   ·rcases hfz with h | h
    ·exact .inl h
    ·refine .inr ?_
     simp only [List.length_append, List.length_take, List.length_drop] at h ⊢; omega
end
theorem OwnN.foldD {α : Type} {F : Enc α} {own : α → Hp → Prop} {e : TypeId} {v : Value} {xs : List α} {k : Nat} {L0 Lb R : Hp} {w0 w : World} {T : List Nat} (hs : St w0 T (L0 ++ (Lb ++ R)) w) (o : OwnF F e v (xs.drop k) L0) (b : Bag own xs Lb) : ∃ L, St w0 T (L ++ R) w ∧ OwnN F own e v (xs.drop k) L := by
 obtain ⟨Lb', h1, h2⟩ := b.dropK (k := k)
 exact ⟨L0 ++ Lb', by rw [List.append_assoc]; exact hs.drop (List.Sublist.append_left (List.Sublist.append_right h2 R) L0), L0, Lb', rfl, o, h1⟩
def Closed (ops : Array Oper) (listed : Array Bool) : Prop := ∀ m o, ops[m]? = some o → listed.getD m false = true → ∀ e ∈ o.after, Region.binds .any e = true → listed.getD e.on false = true
def needsB (ol : List Oper) : Nat → Nat → Nat → Bool
 | 0, _, _ => false
 | fuel + 1, k, i => match nthO ol k with
  | some o => o.after.toList.any fun e => Region.binds .any e && (Nat.beq e.on i || needsB ol fuel e.on i)
  | none => false
def closedB (ol : List Oper) (listed : List Bool) : Bool := (List.range ol.length).all fun m => !(listed.toArray.getD m false) || match nthO ol m with
 | some o => o.after.toList.all fun e => !Region.binds .any e || listed.toArray.getD e.on false
 | none => true
def takesT (ol : List Oper) (listed : List Bool) (k i : Nat) : Bool := canTake ol listed i && (needsB ol ol.length k i && (closedB ol listed && !Nat.beq i k))
section
variable {P : Program} {Q : Exit → Act → World → Prop} {S S1 : World → Prop} {k : Nat} {ol : List Oper}
theorem nth_arr {m : Nat} {o : Oper} : ol.toArray[m]? = some o ↔ nthO ol m = some o := by rw [List.getElem?_toArray, ← nthO_eq]
theorem closed_of {listed : List Bool} (h : closedB ol listed = true) : Closed ol.toArray listed.toArray := fun m o ho hl e he hb => by
 unfold closedB at h
 rw [List.all_eq_true] at h
 have hm : m < ol.length := by
  have := (Array.getElem?_eq_some_iff.1 ho).1
  simpa using this
 have h1 := h m (List.mem_range.2 hm)
 rw [hl, nth_arr.1 ho] at h1
 simp only [Bool.not_true, Bool.false_or, List.all_eq_true] at h1
 have h2 := h1 e (Array.mem_toList_iff.2 he)
 rw [hb] at h2
 simpa using h2
theorem needs_listed {listed : Array Bool} (hc : Closed ol.toArray listed) {i : Nat} : ∀ (fuel x : Nat), (∀ o, nthO ol x = some o → ∀ e ∈ o.after, Region.binds .any e = true → listed.getD e.on false = true) → needsB ol fuel x i = true → listed.getD i false = true
 | 0, _, _, h => by cases h
 | fuel + 1, x, hx, h => by
  unfold needsB at h
  split at h
  ·rename_i o ho
   rw [List.any_eq_true] at h
   obtain ⟨e, he, h1⟩ := h
   rw [Bool.and_eq_true, Bool.or_eq_true] at h1
   have h2 := hx o ho e (Array.mem_toList_iff.1 he) h1.1
   rcases h1.2 with h3 | h3
   ·rw [Nat.eq_of_beq_eq_true h3] at h2; exact h2
   ·exact needs_listed hc fuel e.on (fun o' ho' => hc e.on o' (nth_arr.2 ho') h2) h3
  ·cases h
theorem Closed.set {ops : Array Oper} {listed : Array Bool} (hc : Closed ops listed) {j : Nat} (hj : j ∈ Region.ready .any ops listed) : Closed ops (listed.setIfInBounds j true) := fun m o ho hl e he hb => by
 obtain ⟨_, oj, hoj, hall⟩ := mem_ready.1 hj
 by_cases hm : m = j
 ·subst hm
  rw [hoj] at ho; cases ho
  exact getD_set_true (hall e he hb)
 ·have h1 : listed.getD m false = true := by
   rwa [getD_set_ne false (Ne.symm hm)] at hl
  exact getD_set_true (hc m o ho h1 e he hb)
theorem wpAnyG_firstT {i : Nat} {oi : Oper} {v : Value} (hi : ol.toArray[i]? = some oi) (hneed : needsB ol ol.length k i = true) (hik : i ≠ k) (hsel : ∀ (j : Nat) (o : Oper) cs b, ol.toArray[j]? = some o → o.op ≠ .select cs b)
  (hQ : ∀ c a w, Q (.panic c) (a.put oi.dst v) w → Q (.panic c) a w) :
  ∀ (fuel : Nat) (listed : Array Bool) (a : Act) (w : World), Closed ol.toArray listed →
   (∀ j oj, ol.toArray[j]? = some oj → j ≠ i → listed.getD j true = false → (∀ e ∈ oj.after, Region.binds .any e = true → e.on ≠ i) → oi.apart ol.toArray oj = true) →
   i ∈ Region.ready .any ol.toArray listed → YieldsIf P ol.toArray S1 oi v a → S1 w →
   wpAnyG P .any ol.toArray Q k S1 S fuel (listed.setIfInBounds i true) (a.put oi.dst v) w → wpAnyG P .any ol.toArray Q k S1 S (fuel + 1) listed a w := by
 intro fuel
 have hnotk : ∀ (listed : Array Bool), Closed ol.toArray listed → i ∈ Region.ready .any ol.toArray listed → k ∉ Region.ready .any ol.toArray listed := by
  intro listed hc hr hk
  obtain ⟨_, o', ho', hall⟩ := mem_ready.1 hk
  have h1 := needs_listed hc (i := i) ol.length k (fun o ho e he hb => by
   rw [nth_arr.2 ho] at ho'; cases ho'
   exact hall e he hb) hneed
  have h0 := (mem_ready.1 hr).1
  rcases Nat.lt_or_ge i listed.size with h' | h'
  ·simp [h'] at h0 h1; rw [h0] at h1; cases h1
  ·simp [Array.getElem?_eq_none h'] at h1
 induction fuel with
 | zero =>
  intro listed a w hcl _ hr hy hS H
  refine ⟨fun h => (by rw [h] at hr; cases hr), fun j hj => ⟨fun e => absurd (e ▸ hj) (hnotk _ hcl hr), fun _ => ?_⟩⟩
  by_cases hji : j = i
  ·subst hji; exact hy.wpOp hi hS ⟨hS, H⟩
  ·have := ready_mono hj hji
   rw [H.1] at this
   cases this
 | succ fuel ih =>
  intro listed a w hcl hfree hr hy hS H
  refine ⟨fun h => (by rw [h] at hr; cases hr), fun j hj => ⟨fun e => absurd (e ▸ hj) (hnotk _ hcl hr), fun hjk0 => ?_⟩⟩
  by_cases hji : j = i
  ·subst hji; exact hy.wpOp hi hS ⟨hS, H⟩
  ·have h1 := (H.2 j (ready_mono hj hji)).2 hjk0
   obtain ⟨hjun, oj, hoj, hall⟩ := mem_ready.1 hj
   have hnot : ∀ e ∈ oj.after, Region.binds .any e = true → e.on ≠ i := fun e he hb heq => by
    have h1 := hall e he hb
    have h0 := (mem_ready.1 hr).1
    rw [heq] at h1
    rcases Nat.lt_or_ge i listed.size with h' | h'
    ·simp [h'] at h0 h1; rw [h0] at h1; cases h1
    ·simp [Array.getElem?_eq_none h'] at h1
   have h2 := wpOp_putIf hoj (hfree j oj hoj hji hjun hnot) (fun cs b => hsel i oi cs b hi) (fun cs b => hsel j oj cs b hoj) hQ hy h1
   have hfree' : ∀ q oq, ol.toArray[q]? = some oq → q ≠ i → (listed.setIfInBounds j true).getD q true = false →
     (∀ e ∈ oq.after, Region.binds .any e = true → e.on ≠ i) → oi.apart ol.toArray oq = true := fun q oq hq hqi hun hno => by
    refine hfree q oq hq hqi ?_ hno
    by_cases hjq : j = q
    ·subst hjq; exact hjun
    ·rw [getD_set_ne true hjq] at hun; exact hun
   refine wpOp_mono (fun a' w' h3 => ⟨h3.2.1, ih (listed.setIfInBounds j true) a' w' (hcl.set hj) hfree' (ready_mono hr (Ne.symm hji)) h3.1 h3.2.1 ?_⟩) h2
   rw [Array.setIfInBounds_comm _ _ hji]
   exact h3.2.2
end
section
variable {P : Program} {n : Nat} {ol : List Oper} {o : Oper} {K : Fr → World → Prop} {f : Fr} {w : World} {d : Nat} {v : Value} {S S1 : World → Prop} {fuel k : Nat} {listed : List Bool}
theorem WG.tk (i : Nat) (hi : nthO ol i = some o) (hb : takesT ol listed k i = true) (hw : want ol o f = some true) (hd : o.dst = some d) (hn : Nat.blt d n = true) (hS : S1 w) (hy : ∀ w, S1 w → Run P o f w (.value v) w)
  (kk : WG P n ol k S1 S fuel (setB listed i) K ((d, v) :: f) w) : WG P n ol k S1 S (fuel + 1) listed K f w := fun Q a hp ha hk => by
 simp only [takesT, canTake, Bool.and_eq_true] at hb
 have hi' : ol.toArray[i]? = some o := nth_arr.2 hi
 refine wpAnyG_firstT (v := v) hi' hb.2.1 (by rintro rfl; have h9 := hb.2.2.2; rw [Nat.beq_refl] at h9; cases h9) (Region.noSelect_spec hb.1.1.1) (fun c a w hh => absurd hh (hp _ _ _)) fuel _ _ _ (closed_of hb.2.2.1) (Region.free_spec hi' hb.1.1.2) (by simpa using hb.1.2) (.inl ⟨want_eq ha hw, fun w hSw => hy w hSw a.eval fun x u hx => ha.ev hx⟩) hS ?_
 have := kk Q _ hp (ha.put hn v) hk
 rw [setB_eq] at this
 rw [hd]
 simpa using this
end
theorem WC.mergeK {P : Program} {n : Nat} {c : Code} {K : Fr → World → Prop} {Q : Kont} {f0 : Fr} {w0 w1 : World} {T : List Nat} {L : Hp} (F : Fr) (d : Nat) (v : Value) (hs0 : St w0 T L w1) (hF : Sub F f0) (h1 : ∀ f w, Sub ((d, v) :: F) f → St w0 T L w → K f w)
  (h2 : (∀ f w, Sub ((d, v) :: F) f → St w0 T L w → K f w) → WC P n c (thenK K Q) f0 w1) : WC P n c (thenK K Q) f0 w1 := h2 h1
class TbOk (P : Program) (tb : outParam TT) : Prop where
 ok : tb.Ok P
class Mx (P : Program) : Prop where
 ok : P.follows .mixedOrders = true
section
variable {P : Program} {tb : TT} {w0 w : World} {T : List Nat} {L : Hp} {n : Nat} {ol : List Oper} {act : List (Nat × Bool)} {K : Fr → World → Prop} {KQ : Fr → Prop} {C : World → Prop}
theorem WL.r [t : TbOk P tb] (m : Nat) (hst : St w0 T L w) (h : List Nat) {l l' : List Oper} {f f' : Fr} {S : Prop} (hr : runs tb n ol L [] m l f h True = some (l', f', S)) (k : WL P n ol l' K f' w) (hS : S := by repeat (first | exact trivial | refine ⟨by first | exact rfl | omega | exact u8_in _ | (constructor <;> omega), ?_⟩)) : WL P n ol l K f w := WL.run t.ok m hst h hr hS k
theorem WQ.r [t : TbOk P tb] (m : Nat) (h : List Nat) {l l' : List Oper} {f f' : Fr} {S : Prop} (hr : runs tb n ol L [] m l f h True = some (l', f', S)) (k : WQ P n ol l' (fun w' => St w0 T L w') KQ f') (hS : S := by repeat (first | exact trivial | refine ⟨by first | exact rfl | omega | exact u8_in _ | (constructor <;> omega), ?_⟩)) : WQ P n ol l (fun w' => St w0 T L w') KQ f := WQ.run t.ok m h hr hS k
theorem WC.r1 [t : TbOk P tb] {id : Nat} {l : List Oper} {y : Code} {Q : Kont} {f f' : Fr} {S : Prop} (hst : St w0 T L w) (h : List Nat) (hr : runs tb n l L [] l.length l f h True = some ([], f', S)) (k : WC P n y Q f' w) (hS : S := by repeat (first | exact trivial | refine ⟨by first | exact rfl | omega | exact u8_in _ | (constructor <;> omega), ?_⟩)) : WC P n (.seq (.region id l.toArray false) y) Q f w := WC.rr t.ok hst h hr hS k
theorem WC.q1 [t : TbOk P tb] [m : Mx P] {id : Nat} {l : List Oper} {y : Code} {Q : Kont} {f f' : Fr} {S : Prop} (hst : St w0 T L w) (h : List Nat) (hr : runs tb n l L [] l.length l f h True = some ([], f', S)) (k : ∀ w', St w0 T L w' → WC P n y Q f' w') (hl : Region.lexB .any l.toArray = true := by kernel_rfl) (hS : S := by repeat (first | exact trivial | refine ⟨by first | exact rfl | omega | exact u8_in _ | (constructor <;> omega), ?_⟩)) : WC P n (.seq (.region id l.toArray true) y) Q f w := WC.rq t.ok hst m.ok hl h hr hS k
theorem WC.sq1 [m : Mx P] {id : Nat} {l : List Oper} {y : Code} {Q : Kont} {f : Fr} (hst : St w0 T L w) (h : WQ P n l l (fun w' => St w0 T L w') (fun f' => ∀ w', St w0 T L w' → WC P n y Q f' w') f) (hl : Region.lexB .any l.toArray = true := by kernel_rfl) : WC P n (.seq (.region id l.toArray true) y) Q f w := WC.sq hst m.ok hl h
end
def hruns (tb : TT) (n : Nat) (ol : List Oper) (L : Hp) (act : List (Nat × Bool)) : List Nat → Fr → List Nat → Prop → Option (Fr × Prop)
 | [], f, _, S => some (f, S)
 | i :: is, f, h, S => match nthO ol i with
  | some o => (match o.dst with
   | some d => bif wantA ol act o f && Nat.blt d n && frB act f d then sv tb L o.op f h S fun v h' S' => hruns tb n ol L act is ((d, v) :: f) h' S' else none
   | none => none)
  | none => none
def setBs : List Bool → List Nat → List Bool
 | l, [] => l
 | l, i :: r => setBs (setB l i) r
def fuelB : Nat → List Nat → Option Nat
 | m, [] => some m
 | m + 1, _ :: r => fuelB m r
 | 0, _ :: _ => none
def looks (ol : List Oper) (i : Nat) : Bool := match nthO ol i with
 | some o => (match o.op with
  | .load _ _ => true
  | _ => false)
 | none => true
def takesH (ol : List Oper) : List Bool → List Nat → Bool
 | _, [] => true
 | l, i :: r => canTake ol l i && takesH ol (setB l i) r
def takesG (ol : List Oper) (k : Nat) : List Bool → List Nat → Bool
 | _, [] => true
 | l, i :: r => (takesT ol l k i || (canTake ol l i && (!Nat.beq i k && !looks ol i))) && takesG ol k (setB l i) r
theorem sv_look {β : Type} {tb : TT} {L : Hp} {op : Op} {f : Fr} {h : List Nat} {S : Prop} {k : Value → List Nat → Prop → Option β} (hn : ∀ t x, op ≠ .load t x) : sv tb L op f h S k = sv tb [] op f h S k := by
 cases op <;> first | rfl | exact absurd rfl (hn _ _)
theorem looks_no {ol : List Oper} {i : Nat} {o : Oper} (hi : nthO ol i = some o) (h : looks ol i = false) (t : TypeId) (x : Operand) : o.op ≠ .load t x := fun e => by
 unfold looks at h
 rw [hi] at h
 simp only [e] at h
 cases h
section
variable {P : Program} {tb : TT} {w0 w : World} {T : List Nat} {L : Hp} {n : Nat} {ol : List Oper} {act : List (Nat × Bool)} {K : Fr → World → Prop} {S0 : World → Prop} {k : Nat}
theorem hruns_ok (htb : tb.Ok P) : ∀ {is : List Nat} {listed : List Bool} {F fuel : Nat} {f f' : Fr} {h : List Nat} {S S' : Prop}, Acts ol act f → hruns tb n ol L act is f h S = some (f', S') → fuelB F is = some fuel → S' →
  S ∧ (takesH ol listed is = true → ∀ w, St w0 T L w → WH P n ol (fun w' => St w0 T L w') fuel (setBs listed is) K f' w → WH P n ol (fun w' => St w0 T L w') F listed K f w)
   ∧ (takesG ol k listed is = true → ∀ w, St w0 T L w → WG P n ol k (fun w' => St w0 T L w') S0 fuel (setBs listed is) K f' w → WG P n ol k (fun w' => St w0 T L w') S0 F listed K f w)
 | [], listed, F, fuel, f, f', h, S, S', ha, hr, hf, hS => by
  simp only [hruns, Option.some.injEq, Prod.mk.injEq] at hr
  obtain ⟨rfl, rfl⟩ := hr
  have : F = fuel := by cases F <;> simpa [fuelB] using hf
  subst this
  exact ⟨hS, fun _ _ _ => id, fun _ _ _ => id⟩
 | i :: is, listed, 0, fuel, f, f', h, S, S', ha, hr, hf, hS => by cases hf
 | i :: is, listed, F + 1, fuel, f, f', h, S, S', ha, hr, hf, hS => by
  unfold hruns at hr
  split at hr
  ·rename_i o hi
   split at hr
   ·rename_i d hd
    cases hc : (wantA ol act o f && Nat.blt d n && frB act f d) with
    | false => rw [hc] at hr; cases hr
    | true =>
     rw [hc] at hr
     dsimp only [cond_true] at hr
     simp only [Bool.and_eq_true] at hc
     have hw := wantA_ok ha hc.1.1
     obtain ⟨v, h', S1, hk, hv⟩ := sv_ok htb hr
     obtain ⟨h1, h2, h3⟩ := hruns_ok (listed := setB listed i) htb (frB_ok ha hc.2) hk hf hS
     obtain ⟨h5, h6⟩ := hv h1
     have hy : ∀ w, St w0 T L w → Run P o f w (.value v) w := fun w hst => h6 w (fun p hp => (hst.own p hp).1) o rfl
     refine ⟨h5, fun ht w hst kk => ?_, fun ht w hst kk => ?_⟩
     ·simp only [takesH, Bool.and_eq_true] at ht
      exact WH.take i hi ht.1 hw hd hc.1.2 hst hy (h2 ht.2 w hst kk)
     ·simp only [takesG, Bool.and_eq_true, Bool.or_eq_true, Bool.not_eq_true'] at ht
      rcases ht.1 with ht1 | ⟨ht1, ht2, ht3⟩
      ·exact WG.tk i hi ht1 hw hd hc.1.2 hst hy (h3 ht.2 w hst kk)
      ·rw [sv_look (looks_no hi ht3)] at hr
       obtain ⟨v', h'', S2, hk', hv'⟩ := sv_ok htb hr
       obtain ⟨g1, g2, g3⟩ := hruns_ok (listed := setB listed i) htb (frB_ok ha hc.2) hk' hf hS
       obtain ⟨g5, g6⟩ := hv' g1
       exact WG.takeB i hi ht1 ht2 hw hd hc.1.2 hst (fun w => g6 w (fun p hp => by cases hp) o rfl) (g3 ht.2 w hst kk)
   ·cases hr
  ·cases hr
theorem WH.rn [t : TbOk P tb] (is : List Nat) (hst : St w0 T L w) (h : List Nat) {listed : List Bool} {F fuel : Nat} {f f' : Fr} {S : Prop} (hr : hruns tb n ol L [] is f h True = some (f', S)) (hf : fuelB F is = some fuel) (kk : WH P n ol (fun w' => St w0 T L w') fuel (setBs listed is) K f' w) (hb : takesH ol listed is = true := by kernel_rfl)
  (hS : S := by repeat (first | exact trivial | refine ⟨by first | exact rfl | omega | exact u8_in _ | (constructor <;> omega), ?_⟩)) : WH P n ol (fun w' => St w0 T L w') F listed K f w :=
 (hruns_ok (k := 0) (S0 := fun _ => True) t.ok Acts.nil hr hf hS).2.1 hb w hst kk
theorem WH.rnA [t : TbOk P tb] {f : Fr} (ha : Acts ol act f) (is : List Nat) (hst : St w0 T L w) (h : List Nat) {listed : List Bool} {F fuel : Nat} {f' : Fr} {S : Prop} (hr : hruns tb n ol L act is f h True = some (f', S)) (hf : fuelB F is = some fuel) (kk : WH P n ol (fun w' => St w0 T L w') fuel (setBs listed is) K f' w) (hb : takesH ol listed is = true := by kernel_rfl)
  (hS : S := by repeat (first | exact trivial | refine ⟨by first | exact rfl | omega | exact u8_in _ | (constructor <;> omega), ?_⟩)) : WH P n ol (fun w' => St w0 T L w') F listed K f w :=
 (hruns_ok (k := 0) (S0 := fun _ => True) t.ok ha hr hf hS).2.1 hb w hst kk
theorem WG.rn [t : TbOk P tb] (is : List Nat) (hst : St w0 T L w) (h : List Nat) {listed : List Bool} {F fuel : Nat} {f f' : Fr} {S : Prop} (hr : hruns tb n ol L [] is f h True = some (f', S)) (hf : fuelB F is = some fuel) (kk : WG P n ol k (fun w' => St w0 T L w') S0 fuel (setBs listed is) K f' w) (hb : takesG ol k listed is = true := by kernel_rfl)
  (hS : S := by repeat (first | exact trivial | refine ⟨by first | exact rfl | omega | exact u8_in _ | (constructor <;> omega), ?_⟩)) : WG P n ol k (fun w' => St w0 T L w') S0 F listed K f w :=
 (hruns_ok (k := k) (S0 := S0) t.ok Acts.nil hr hf hS).2.2 hb w hst kk
theorem WG.rnA [t : TbOk P tb] {f : Fr} (ha : Acts ol act f) (is : List Nat) (hst : St w0 T L w) (h : List Nat) {listed : List Bool} {F fuel : Nat} {f' : Fr} {S : Prop} (hr : hruns tb n ol L act is f h True = some (f', S)) (hf : fuelB F is = some fuel) (kk : WG P n ol k (fun w' => St w0 T L w') S0 fuel (setBs listed is) K f' w) (hb : takesG ol k listed is = true := by kernel_rfl)
  (hS : S := by repeat (first | exact trivial | refine ⟨by first | exact rfl | omega | exact u8_in _ | (constructor <;> omega), ?_⟩)) : WG P n ol k (fun w' => St w0 T L w') S0 F listed K f w :=
 (hruns_ok (k := k) (S0 := S0) t.ok ha hr hf hS).2.2 hb w hst kk
end
section
variable {P : Program} {n : Nat} {ol : List Oper} {o : Oper} {K : Fr → World → Prop} {f : Fr} {w : World} {S S1 : World → Prop} {fuel k : Nat} {listed : List Bool}
theorem WH.o1 (i : Nat) (hi : nthO ol i = some o) (h : WL P n ol [o] (fun f' w' => S w' ∧ WH P n ol S fuel (setB listed i) K f' w') f w) (hr : Region.ready .any ol.toArray listed.toArray = [i] := by kernel_rfl) : WH P n ol S (fuel + 1) listed K f w := WH.all [i] hr rfl (WHs.cons hi h WHs.nil)
theorem WG.o1 (i : Nat) (hi : nthO ol i = some o) (hn : Nat.beq i k = false) (h : WL P n ol [o] (fun f' w' => S1 w' ∧ WG P n ol k S1 S fuel (setB listed i) K f' w') f w) (hr : Region.ready .any ol.toArray listed.toArray = [i] := by kernel_rfl) : WG P n ol k S1 S (fuel + 1) listed K f w := WG.all [i] hr rfl (WGs.cons hi hn h WGs.nil)
theorem WG.oK (hi : nthO ol k = some o) (h : WL P n ol [o] (fun f' w' => S w' ∧ WH P n ol S fuel (setB listed k) K f' w') f w) (hr : Region.ready .any ol.toArray listed.toArray = [k] := by kernel_rfl) : WG P n ol k S1 S (fuel + 1) listed K f w := WG.all [k] hr rfl (WGs.consK hi h WGs.nil)
theorem WH.dn (h : K f w) (hr : Region.ready .any ol.toArray listed.toArray = [] := by kernel_rfl) : WH P n ol S fuel listed K f w := WH.done hr h
theorem WL.n2 (h1 : S w) (h2 : WH P n ol S1 fuel listed K f w) : WL P n ol [] (fun f' w' => S w' ∧ WH P n ol S1 fuel listed K f' w') f w := WL.nil ⟨h1, h2⟩
end
section
variable {P : Program} {n : Nat} {w0 w : World} {T : List Nat} {L L0 L1 : Hp} {f : Fr}
theorem WC.rH [m : Mx P] {id : Nat} {l : List Oper} {Q : Kont} (h0 : St w0 T L0 w) (h1 : St w0 T L w) (h : ∀ w', St w0 T L w' → WH P n l (fun w' => St w0 T L0 w') l.length (List.replicate l.length false) (fun f w => Q .normal f w) f w') : WC P n (.region id l.toArray true) Q f w := WC.regionH2 _ _ m.ok h0.drew h1.drew h
theorem WC.rG [m : Mx P] {id : Nat} {l : List Oper} {Q : Kont} (k : Nat) (h0 : St w0 T L0 w) (h1 : St w0 T L1 w) (h2 : St w0 T L w) (h : ∀ w', St w0 T L w' → WG P n l k (fun w' => St w0 T L1 w') (fun w' => St w0 T L0 w') l.length (List.replicate l.length false) (fun f w => Q .normal f w) f w') : WC P n (.region id l.toArray true) Q f w := WC.regionG k _ _ _ m.ok h0.drew h1.drew h2.drew h
end
class Fr1 (X L : Hp) (R : outParam Hp) : Prop where
 pf : (X ++ R).Perm L
theorem fr1_mid {X A R L : Hp} (h : (X ++ R).Perm L) : (X ++ (A ++ R)).Perm (A ++ L) := perm_front h
instance (priority := low) fr1End {X : Hp} : Fr1 X X [] := ⟨by rw [List.append_nil]⟩
instance fr1App {X L R A : Hp} [h : Fr1 X L R] : Fr1 X (A ++ L) (A ++ R) := ⟨fr1_mid h.pf⟩
instance fr1Cons {X L R : Hp} {p : Nat × Obj} [h : Fr1 X L R] : Fr1 X (p :: L) (p :: R) := ⟨fr1_mid (A := [p]) h.pf⟩
instance (priority := high) fr1Nil {L : Hp} : Fr1 [] L L := ⟨List.Perm.refl _⟩
instance (priority := high) fr1Here {X R : Hp} : Fr1 X (X ++ R) R := ⟨List.Perm.refl _⟩
instance fr1App' {X L R A : Hp} [h : Fr1 X L R] : Fr1 X (A.append L) (A ++ R) := ⟨fr1_mid h.pf⟩
instance (priority := high) fr1Here' {X R : Hp} : Fr1 X (X.append R) R := ⟨List.Perm.refl _⟩
class FrB (b : Nat) (L : Hp) (o : outParam Obj) (R : outParam Hp) : Prop where
 pf : ((b, o) :: R).Perm L
instance frbApp {b : Nat} {o : Obj} {L R A : Hp} [h : FrB b L o R] : FrB b (A ++ L) o (A ++ R) := ⟨fr1_mid (X := [(b, o)]) h.pf⟩
instance frbCons {b : Nat} {o : Obj} {L R : Hp} {p : Nat × Obj} [h : FrB b L o R] : FrB b (p :: L) o (p :: R) := ⟨fr1_mid (X := [(b, o)]) (A := [p]) h.pf⟩
instance frbApp' {b : Nat} {o : Obj} {L R A : Hp} [h : FrB b L o R] : FrB b (A.append L) o (A ++ R) := ⟨fr1_mid (X := [(b, o)]) h.pf⟩
instance frbIn {b : Nat} {o : Obj} {L R A : Hp} {p : Nat × Obj} [h : FrB b (A ++ L) o R] : FrB b ((p :: A) ++ L) o (p :: R) := ⟨fr1_mid (X := [(b, o)]) (A := [p]) h.pf⟩
instance frbIn' {b : Nat} {o : Obj} {L R A : Hp} {p : Nat × Obj} [h : FrB b (A.append L) o R] : FrB b (List.append (p :: A) L) o (p :: R) := ⟨fr1_mid (X := [(b, o)]) (A := [p]) h.pf⟩
instance (priority := high) frbHd {b : Nat} {o : Obj} {R A : Hp} : FrB b (((b, o) :: A) ++ R) o (A ++ R) := ⟨List.Perm.refl _⟩
instance (priority := high) frbHd' {b : Nat} {o : Obj} {R A : Hp} : FrB b (List.append ((b, o) :: A) R) o (A ++ R) := ⟨List.Perm.refl _⟩
instance (priority := high) frbOne' {b : Nat} {o : Obj} {R : Hp} : FrB b (List.append [(b, o)] R) o R := ⟨List.Perm.refl _⟩
instance (priority := high) frbOne {b : Nat} {o : Obj} {R : Hp} : FrB b ([(b, o)] ++ R) o R := ⟨List.Perm.refl _⟩
instance (priority := high) frbHere {b : Nat} {o : Obj} {R : Hp} : FrB b ((b, o) :: R) o R := ⟨List.Perm.refl _⟩
section
variable {w0 w : World} {T : List Nat} {L R A B C D R1 R2 R3 R4 : Hp} {o : Obj} {p q : Nat × Obj}
theorem St.fr (h : St w0 T L w) (X : Hp) [k : Fr1 X L R] : St w0 T (X ++ R) w := h.perm k.pf
theorem St.rm (h : St w0 T L w) (X : Hp) [k : Fr1 X L R] : St w0 T R w := (h.perm k.pf).drop (sR _)
theorem St.fb (h : St w0 T L w) (b : Nat) [k : FrB b L o R] : St w0 T ((b, o) :: R) w := h.perm k.pf
theorem St.ow (h : St w0 T L w) (X : Hp) [k : Fr1 X L R] : ∀ p, p ∈ X → w.heap[p.1]? = some p.2 := fun p hp => (h.own p (k.pf.mem_iff.1 (List.mem_append_left _ hp))).1
theorem St.d1 (h : St w0 T (p :: L) w) : St w0 T L w := h.drop (List.sublist_cons_self _ _)
end
class BoolP (b : Bool) (p q : outParam Prop) : Prop where
 t : b = true → p
 f : b = false → q
instance (priority := low) boolP0 {b : Bool} : BoolP b (b = true) (b = false) := ⟨id, id⟩
instance boolPD {p : Prop} [d : Decidable p] : BoolP (decide p) p (¬ p) := ⟨of_decide_eq_true, of_decide_eq_false⟩
instance boolPN {b : Bool} {p q : Prop} [h : BoolP b p q] : BoolP (!b) q p := ⟨fun e => h.f (by simpa using e), fun e => h.t (by simpa using e)⟩
instance boolPA {a b : Bool} {p q p' q' : Prop} [h : BoolP a p q] [k : BoolP b p' q'] : BoolP (a && b) (p ∧ p') ((a && b) = false) := ⟨fun e => by rw [Bool.and_eq_true] at e; exact ⟨h.t e.1, k.t e.2⟩, id⟩
instance boolPO {a b : Bool} {p q p' q' : Prop} [h : BoolP a p q] [k : BoolP b p' q'] : BoolP (a || b) ((a || b) = true) (q ∧ q') := ⟨id, fun e => by rw [Bool.or_eq_false_iff] at e; exact ⟨h.f e.1, k.f e.2⟩⟩
section
variable {P : Program} {n : Nat} {w : World} {f : Fr}
theorem WC.cq {c : Operand} {x y : Code} {t : Bool} {p q : Prop} {Q : Kont} (hc : ev f c = some (.bool t)) [i : BoolP t p q] (hx : t = true → p → WC P n x Q f w) (hy : t = false → q → WC P n y Q f w) : WC P n (.cond c x y) Q f w :=
 WC.cond hc (fun h => hx h (i.t h)) (fun h => hy h (i.f h))
end
def rstr : List Nat → Fr → Option Fr
 | [], _ => some []
 | i :: r, f => match lk f i with
  | some v => (match rstr r f with
   | some g => some ((i, v) :: g)
   | none => none)
  | none => none
theorem rstr_ok : ∀ {is : List Nat} {f F : Fr}, rstr is f = some F → Sub F f
 | [], f, F, h => by simp only [rstr, Option.some.injEq] at h; subst h; trivial
 | i :: r, f, F, h => by
  unfold rstr at h
  split at h
  ·rename_i v hv
   split at h
   ·rename_i g hg
    simp only [Option.some.injEq] at h
    subst h
    exact ⟨hv, rstr_ok hg⟩
   ·cases h
  ·cases h
def keysF : Fr → List Nat
 | [] => []
 | (i, _) :: r => i :: keysF r
theorem sbF {F f : Fr} (h : rstr (keysF F) f = some F) : Sub F f := rstr_ok h
section
variable {P : Program} {n : Nat} {c : Code} {Q : Kont} {f : Fr} {w0 w : World} {T : List Nat} {R L L0 : Hp}
theorem WC.lV {F : Fr} {L0 : Hp} (is : List Nat) (hF : rstr is f = some F) (hst : St w0 T (L0 ++ R) w) (I : Nat → Hp → Fr → Prop) (k0 : Nat) (h0 : I k0 L0 f)
  (hr : ∀ k a f w, I k a f → Sub F f → St w0 T (a ++ R) w → WC P n c (thenK (fun f' w' => Sub F f' ∧ ∃ a', St w0 T (a' ++ R) w' ∧ ∃ k', k' < k ∧ I k' a' f') Q) f w) : WC P n (.loop c) Q f w :=
 WC.loopV (α := Hp) F (rstr_ok hF) (fun a => a) L0 hst I k0 h0 hr
theorem WC.lS {F : Fr} (is : List Nat) (hF : rstr is f = some F) (hst : St w0 T L w) (I : Nat → Fr → World → Prop) (k0 : Nat) (h0 : I k0 f w)
  (hr : ∀ k f w, I k f w → Sub F f → St w0 T L w → WC P n c (thenK (fun f' w' => Sub F f' ∧ St w0 T L w' ∧ ∃ k', k' < k ∧ I k' f' w') Q) f w) : WC P n (.loop c) Q f w :=
 WC.loopS F (rstr_ok hF) hst I k0 h0 hr
theorem WC.lO {F : Fr} (is : List Nat) (hF : rstr is f = some F) (hst : St w0 T (L0 ++ R) w) (I : Nat → Fr → Hp → Prop) (k0 : Nat) (h0 : I k0 f L0)
  (hr : ∀ k f w L, I k f L → Sub F f → St w0 T (L ++ R) w → WC P n c (thenK (fun f' w' => Sub F f' ∧ ∃ L', St w0 T (L' ++ R) w' ∧ ∃ k', k' < k ∧ I k' f' L') Q) f w) : WC P n (.loop c) Q f w :=
 WC.loopO F (rstr_ok hF) hst I k0 h0 hr
end
def clC (n : Nat) (o : Oper) (f : Fr) : Option (FuncId × List Value × Nat) :=
 match o.guard, o.dst, o.op with
 | none, some d, .call c => (match c.callee with
  | .value fo => (match ev f fo, evs f c.args.toList with
   | some (.func (.func g) ⟨[]⟩ ⟨[]⟩), some vl => bif Nat.blt d n then some (g, vl, d) else none
   | _, _ => none)
  | _ => none)
 | _, _, _ => none
section
variable {P : Program} {n : Nat} {ol rest : List Oper} {o : Oper} {K : Fr → World → Prop} {f : Fr} {w : World}
theorem WL.cl {g d : Nat} {vl : List Value} {R : Ending → World → Prop} (hf : ∀ args w, (callFunc g args).run P w = .ok (.enter g args) w) (h : clC n o f = some (g, vl, d)) (hc : Calls P g vl.toArray w R) (k : ∀ e w', R e w' → ∃ v, e = .returned v ∧ WL P n ol rest K ((d, v) :: f) w') : WL P n ol (o :: rest) K f w := by
 unfold clC at h
 split at h
 ·rename_i d' c hg hd ho
  split at h
  ·rename_i fo hcal
   split at h
   ·rename_i g' vl' hfo hvs
    cases hn : Nat.blt d' n with
    | false => rw [hn] at h; cases h
    | true =>
     rw [hn] at h
     simp only [cond_true, Option.some.injEq, Prod.mk.injEq] at h
     obtain ⟨rfl, rfl, rfl⟩ := h
     refine WL.call (want_none hg) hd hn (Run.call (ts := c.argTypes) (args := c.args) hf ?_ hfo hvs) hc k
     rw [ho]
     obtain ⟨c1, c2, c3⟩ := c
     simp only at hcal
     subst hcal
     rfl
   ·cases h
  ·cases h
 ·cases h
end
structure FileD where
 Id : Int
 Body : List UInt8
 Safe : Int
theorem FileD.ext' {x y : FileD} (h0 : x.Id = y.Id) (h1 : x.Body = y.Body) (h2 : x.Safe = y.Safe) : x = y := by cases x; cases y; simp_all
theorem FileD.iff' {x y : FileD} : x = y ↔ x.Id = y.Id ∧ x.Body = y.Body ∧ x.Safe = y.Safe := ⟨fun h => by subst h; simp, fun h => by cases x; cases y; simp_all⟩
instance : DecidableEq FileD := fun x y => decidable_of_iff (x.Id = y.Id ∧ x.Body = y.Body ∧ x.Safe = y.Safe) FileD.iff'.symm
structure LinkD where
 Name : ByteArray
 Id : Int
theorem LinkD.ext' {x y : LinkD} (h0 : x.Name = y.Name) (h1 : x.Id = y.Id) : x = y := by cases x; cases y; simp_all
theorem LinkD.iff' {x y : LinkD} : x = y ↔ x.Name = y.Name ∧ x.Id = y.Id := ⟨fun h => by subst h; simp, fun h => by cases x; cases y; simp_all⟩
instance : DecidableEq LinkD := fun x y => decidable_of_iff (x.Name = y.Name ∧ x.Id = y.Id) LinkD.iff'.symm
structure TurnD where
 Kind : Int
 Name : ByteArray
 To : ByteArray
 Id : Int
theorem TurnD.ext' {x y : TurnD} (h0 : x.Kind = y.Kind) (h1 : x.Name = y.Name) (h2 : x.To = y.To) (h3 : x.Id = y.Id) : x = y := by cases x; cases y; simp_all
theorem TurnD.iff' {x y : TurnD} : x = y ↔ x.Kind = y.Kind ∧ x.Name = y.Name ∧ x.To = y.To ∧ x.Id = y.Id := ⟨fun h => by subst h; simp, fun h => by cases x; cases y; simp_all⟩
instance : DecidableEq TurnD := fun x y => decidable_of_iff (x.Kind = y.Kind ∧ x.Name = y.Name ∧ x.To = y.To ∧ x.Id = y.Id) TurnD.iff'.symm
structure DiskD where
 Room : Int
 Fuse : Int
 Next : Int
 Files : List FileD
 Kept : List LinkD
 Turns : List TurnD
theorem DiskD.ext' {x y : DiskD} (h0 : x.Room = y.Room) (h1 : x.Fuse = y.Fuse) (h2 : x.Next = y.Next) (h3 : x.Files = y.Files) (h4 : x.Kept = y.Kept) (h5 : x.Turns = y.Turns) : x = y := by cases x; cases y; simp_all
theorem DiskD.iff' {x y : DiskD} : x = y ↔ x.Room = y.Room ∧ x.Fuse = y.Fuse ∧ x.Next = y.Next ∧ x.Files = y.Files ∧ x.Kept = y.Kept ∧ x.Turns = y.Turns := ⟨fun h => by subst h; simp, fun h => by cases x; cases y; simp_all⟩
instance : DecidableEq DiskD := fun x y => decidable_of_iff (x.Room = y.Room ∧ x.Fuse = y.Fuse ∧ x.Next = y.Next ∧ x.Files = y.Files ∧ x.Kept = y.Kept ∧ x.Turns = y.Turns) DiskD.iff'.symm
structure DiskOpD where
 Kind : Int
 Name : ByteArray
 To : ByteArray
 Data : List UInt8
theorem DiskOpD.ext' {x y : DiskOpD} (h0 : x.Kind = y.Kind) (h1 : x.Name = y.Name) (h2 : x.To = y.To) (h3 : x.Data = y.Data) : x = y := by cases x; cases y; simp_all
theorem DiskOpD.iff' {x y : DiskOpD} : x = y ↔ x.Kind = y.Kind ∧ x.Name = y.Name ∧ x.To = y.To ∧ x.Data = y.Data := ⟨fun h => by subst h; simp, fun h => by cases x; cases y; simp_all⟩
instance : DecidableEq DiskOpD := fun x y => decidable_of_iff (x.Kind = y.Kind ∧ x.Name = y.Name ∧ x.To = y.To ∧ x.Data = y.Data) DiskOpD.iff'.symm
structure LoadD where
 Data : List UInt8
theorem LoadD.ext' {x y : LoadD} (h0 : x.Data = y.Data) : x = y := by cases x; cases y; simp_all
theorem LoadD.iff' {x y : LoadD} : x = y ↔ x.Data = y.Data := ⟨fun h => by subst h; simp, fun h => by cases x; cases y; simp_all⟩
instance : DecidableEq LoadD := fun x y => decidable_of_iff (x.Data = y.Data) LoadD.iff'.symm
structure DepotD where
 Disk : DiskD
 Gen : Int
 Seq : Int
 Size : Int
 Stuck : Bool
theorem DepotD.ext' {x y : DepotD} (h0 : x.Disk = y.Disk) (h1 : x.Gen = y.Gen) (h2 : x.Seq = y.Seq) (h3 : x.Size = y.Size) (h4 : x.Stuck = y.Stuck) : x = y := by cases x; cases y; simp_all
theorem DepotD.iff' {x y : DepotD} : x = y ↔ x.Disk = y.Disk ∧ x.Gen = y.Gen ∧ x.Seq = y.Seq ∧ x.Size = y.Size ∧ x.Stuck = y.Stuck := ⟨fun h => by subst h; simp, fun h => by cases x; cases y; simp_all⟩
instance : DecidableEq DepotD := fun x y => decidable_of_iff (x.Disk = y.Disk ∧ x.Gen = y.Gen ∧ x.Seq = y.Seq ∧ x.Size = y.Size ∧ x.Stuck = y.Stuck) DepotD.iff'.symm
structure AttrD where
 Fg : Int
 Bg : Int
 Bold : Bool
 Under : Bool
 Turn : Bool
theorem AttrD.ext' {x y : AttrD} (h0 : x.Fg = y.Fg) (h1 : x.Bg = y.Bg) (h2 : x.Bold = y.Bold) (h3 : x.Under = y.Under) (h4 : x.Turn = y.Turn) : x = y := by cases x; cases y; simp_all
theorem AttrD.iff' {x y : AttrD} : x = y ↔ x.Fg = y.Fg ∧ x.Bg = y.Bg ∧ x.Bold = y.Bold ∧ x.Under = y.Under ∧ x.Turn = y.Turn := ⟨fun h => by subst h; simp, fun h => by cases x; cases y; simp_all⟩
instance : DecidableEq AttrD := fun x y => decidable_of_iff (x.Fg = y.Fg ∧ x.Bg = y.Bg ∧ x.Bold = y.Bold ∧ x.Under = y.Under ∧ x.Turn = y.Turn) AttrD.iff'.symm
def encAttr : Enc AttrD := ⟨5, fun d => [i64 d.Fg, i64 d.Bg, .bool d.Bold, .bool d.Under, .bool d.Turn], ⟨0, 0, false, false, false⟩, fun _ => rfl, fun x v h => by simp at h; rcases h with rfl | rfl | rfl | rfl | rfl <;> rfl, by decide⟩
structure CellD where
 R : Int
 A : AttrD
theorem CellD.ext' {x y : CellD} (h0 : x.R = y.R) (h1 : x.A = y.A) : x = y := by cases x; cases y; simp_all
theorem CellD.iff' {x y : CellD} : x = y ↔ x.R = y.R ∧ x.A = y.A := ⟨fun h => by subst h; simp, fun h => by cases x; cases y; simp_all⟩
instance : DecidableEq CellD := fun x y => decidable_of_iff (x.R = y.R ∧ x.A = y.A) CellD.iff'.symm
def encCell : Enc CellD := ⟨6, fun d => [i64 d.R, i64 d.A.Fg, i64 d.A.Bg, .bool d.A.Bold, .bool d.A.Under, .bool d.A.Turn], ⟨0, ⟨0, 0, false, false, false⟩⟩, fun _ => rfl, fun x v h => by simp at h; rcases h with rfl | rfl | rfl | rfl | rfl | rfl <;> rfl, by decide⟩
structure GridD where
 W : Int
 H : Int
 Cells : List CellD
theorem GridD.ext' {x y : GridD} (h0 : x.W = y.W) (h1 : x.H = y.H) (h2 : x.Cells = y.Cells) : x = y := by cases x; cases y; simp_all
theorem GridD.iff' {x y : GridD} : x = y ↔ x.W = y.W ∧ x.H = y.H ∧ x.Cells = y.Cells := ⟨fun h => by subst h; simp, fun h => by cases x; cases y; simp_all⟩
instance : DecidableEq GridD := fun x y => decidable_of_iff (x.W = y.W ∧ x.H = y.H ∧ x.Cells = y.Cells) GridD.iff'.symm
structure VpD where
 State : Int
 Mark : Bool
 Args : List Int
 Part : List UInt8
theorem VpD.ext' {x y : VpD} (h0 : x.State = y.State) (h1 : x.Mark = y.Mark) (h2 : x.Args = y.Args) (h3 : x.Part = y.Part) : x = y := by cases x; cases y; simp_all
theorem VpD.iff' {x y : VpD} : x = y ↔ x.State = y.State ∧ x.Mark = y.Mark ∧ x.Args = y.Args ∧ x.Part = y.Part := ⟨fun h => by subst h; simp, fun h => by cases x; cases y; simp_all⟩
instance : DecidableEq VpD := fun x y => decidable_of_iff (x.State = y.State ∧ x.Mark = y.Mark ∧ x.Args = y.Args ∧ x.Part = y.Part) VpD.iff'.symm
structure ActD where
 Kind : Int
 R : Int
 Mark : Bool
 Args : List Int
theorem ActD.ext' {x y : ActD} (h0 : x.Kind = y.Kind) (h1 : x.R = y.R) (h2 : x.Mark = y.Mark) (h3 : x.Args = y.Args) : x = y := by cases x; cases y; simp_all
theorem ActD.iff' {x y : ActD} : x = y ↔ x.Kind = y.Kind ∧ x.R = y.R ∧ x.Mark = y.Mark ∧ x.Args = y.Args := ⟨fun h => by subst h; simp, fun h => by cases x; cases y; simp_all⟩
instance : DecidableEq ActD := fun x y => decidable_of_iff (x.Kind = y.Kind ∧ x.R = y.R ∧ x.Mark = y.Mark ∧ x.Args = y.Args) ActD.iff'.symm
structure RowD where
 Cells : List CellD
theorem RowD.ext' {x y : RowD} (h0 : x.Cells = y.Cells) : x = y := by cases x; cases y; simp_all
theorem RowD.iff' {x y : RowD} : x = y ↔ x.Cells = y.Cells := ⟨fun h => by subst h; simp, fun h => by cases x; cases y; simp_all⟩
instance : DecidableEq RowD := fun x y => decidable_of_iff (x.Cells = y.Cells) RowD.iff'.symm
structure ScrD where
 W : Int
 H : Int
 Main : GridD
 Alt : GridD
 OnAlt : Bool
 X : Int
 Y : Int
 Wrap : Bool
 A : AttrD
 Top : Int
 Bot : Int
 NoWrap : Bool
 Hide : Bool
 SaveX : Int
 SaveY : Int
 SaveA : AttrD
 Tabs : List Int
 Limit : Int
 Back : List RowD
theorem ScrD.ext' {x y : ScrD} (h0 : x.W = y.W) (h1 : x.H = y.H) (h2 : x.Main = y.Main) (h3 : x.Alt = y.Alt) (h4 : x.OnAlt = y.OnAlt) (h5 : x.X = y.X) (h6 : x.Y = y.Y) (h7 : x.Wrap = y.Wrap) (h8 : x.A = y.A) (h9 : x.Top = y.Top) (h10 : x.Bot = y.Bot) (h11 : x.NoWrap = y.NoWrap) (h12 : x.Hide = y.Hide) (h13 : x.SaveX = y.SaveX) (h14 : x.SaveY = y.SaveY) (h15 : x.SaveA = y.SaveA) (h16 : x.Tabs = y.Tabs) (h17 : x.Limit = y.Limit) (h18 : x.Back = y.Back) : x = y := by cases x; cases y; simp_all
theorem ScrD.iff' {x y : ScrD} : x = y ↔ x.W = y.W ∧ x.H = y.H ∧ x.Main = y.Main ∧ x.Alt = y.Alt ∧ x.OnAlt = y.OnAlt ∧ x.X = y.X ∧ x.Y = y.Y ∧ x.Wrap = y.Wrap ∧ x.A = y.A ∧ x.Top = y.Top ∧ x.Bot = y.Bot ∧ x.NoWrap = y.NoWrap ∧ x.Hide = y.Hide ∧ x.SaveX = y.SaveX ∧ x.SaveY = y.SaveY ∧ x.SaveA = y.SaveA ∧ x.Tabs = y.Tabs ∧ x.Limit = y.Limit ∧ x.Back = y.Back := ⟨fun h => by subst h; simp, fun h => by cases x; cases y; simp_all⟩
instance : DecidableEq ScrD := fun x y => decidable_of_iff (x.W = y.W ∧ x.H = y.H ∧ x.Main = y.Main ∧ x.Alt = y.Alt ∧ x.OnAlt = y.OnAlt ∧ x.X = y.X ∧ x.Y = y.Y ∧ x.Wrap = y.Wrap ∧ x.A = y.A ∧ x.Top = y.Top ∧ x.Bot = y.Bot ∧ x.NoWrap = y.NoWrap ∧ x.Hide = y.Hide ∧ x.SaveX = y.SaveX ∧ x.SaveY = y.SaveY ∧ x.SaveA = y.SaveA ∧ x.Tabs = y.Tabs ∧ x.Limit = y.Limit ∧ x.Back = y.Back) ScrD.iff'.symm
structure TermD where
 P : VpD
 S : ScrD
theorem TermD.ext' {x y : TermD} (h0 : x.P = y.P) (h1 : x.S = y.S) : x = y := by cases x; cases y; simp_all
theorem TermD.iff' {x y : TermD} : x = y ↔ x.P = y.P ∧ x.S = y.S := ⟨fun h => by subst h; simp, fun h => by cases x; cases y; simp_all⟩
instance : DecidableEq TermD := fun x y => decidable_of_iff (x.P = y.P ∧ x.S = y.S) TermD.iff'.symm
structure NodeD where
 Pane : Int
 Down : Bool
 First : Int
theorem NodeD.ext' {x y : NodeD} (h0 : x.Pane = y.Pane) (h1 : x.Down = y.Down) (h2 : x.First = y.First) : x = y := by cases x; cases y; simp_all
theorem NodeD.iff' {x y : NodeD} : x = y ↔ x.Pane = y.Pane ∧ x.Down = y.Down ∧ x.First = y.First := ⟨fun h => by subst h; simp, fun h => by cases x; cases y; simp_all⟩
instance : DecidableEq NodeD := fun x y => decidable_of_iff (x.Pane = y.Pane ∧ x.Down = y.Down ∧ x.First = y.First) NodeD.iff'.symm
structure PaneD where
 Id : Int
 Cmd : ByteArray
 Dir : ByteArray
 Life : Int
 Code : Int
 Pid : Int
 Term : TermD
theorem PaneD.ext' {x y : PaneD} (h0 : x.Id = y.Id) (h1 : x.Cmd = y.Cmd) (h2 : x.Dir = y.Dir) (h3 : x.Life = y.Life) (h4 : x.Code = y.Code) (h5 : x.Pid = y.Pid) (h6 : x.Term = y.Term) : x = y := by cases x; cases y; simp_all
theorem PaneD.iff' {x y : PaneD} : x = y ↔ x.Id = y.Id ∧ x.Cmd = y.Cmd ∧ x.Dir = y.Dir ∧ x.Life = y.Life ∧ x.Code = y.Code ∧ x.Pid = y.Pid ∧ x.Term = y.Term := ⟨fun h => by subst h; simp, fun h => by cases x; cases y; simp_all⟩
instance : DecidableEq PaneD := fun x y => decidable_of_iff (x.Id = y.Id ∧ x.Cmd = y.Cmd ∧ x.Dir = y.Dir ∧ x.Life = y.Life ∧ x.Code = y.Code ∧ x.Pid = y.Pid ∧ x.Term = y.Term) PaneD.iff'.symm
structure WinD where
 Id : Int
 Name : ByteArray
 Tree : List NodeD
 Active : Int
 Zoom : Bool
theorem WinD.ext' {x y : WinD} (h0 : x.Id = y.Id) (h1 : x.Name = y.Name) (h2 : x.Tree = y.Tree) (h3 : x.Active = y.Active) (h4 : x.Zoom = y.Zoom) : x = y := by cases x; cases y; simp_all
theorem WinD.iff' {x y : WinD} : x = y ↔ x.Id = y.Id ∧ x.Name = y.Name ∧ x.Tree = y.Tree ∧ x.Active = y.Active ∧ x.Zoom = y.Zoom := ⟨fun h => by subst h; simp, fun h => by cases x; cases y; simp_all⟩
instance : DecidableEq WinD := fun x y => decidable_of_iff (x.Id = y.Id ∧ x.Name = y.Name ∧ x.Tree = y.Tree ∧ x.Active = y.Active ∧ x.Zoom = y.Zoom) WinD.iff'.symm
structure SessD where
 Name : ByteArray
 Wins : List Int
 Active : Int
theorem SessD.ext' {x y : SessD} (h0 : x.Name = y.Name) (h1 : x.Wins = y.Wins) (h2 : x.Active = y.Active) : x = y := by cases x; cases y; simp_all
theorem SessD.iff' {x y : SessD} : x = y ↔ x.Name = y.Name ∧ x.Wins = y.Wins ∧ x.Active = y.Active := ⟨fun h => by subst h; simp, fun h => by cases x; cases y; simp_all⟩
instance : DecidableEq SessD := fun x y => decidable_of_iff (x.Name = y.Name ∧ x.Wins = y.Wins ∧ x.Active = y.Active) SessD.iff'.symm
structure StateD where
 W : Int
 H : Int
 Limit : Int
 Next : Int
 Panes : List PaneD
 Wins : List WinD
 Sess : List SessD
theorem StateD.ext' {x y : StateD} (h0 : x.W = y.W) (h1 : x.H = y.H) (h2 : x.Limit = y.Limit) (h3 : x.Next = y.Next) (h4 : x.Panes = y.Panes) (h5 : x.Wins = y.Wins) (h6 : x.Sess = y.Sess) : x = y := by cases x; cases y; simp_all
theorem StateD.iff' {x y : StateD} : x = y ↔ x.W = y.W ∧ x.H = y.H ∧ x.Limit = y.Limit ∧ x.Next = y.Next ∧ x.Panes = y.Panes ∧ x.Wins = y.Wins ∧ x.Sess = y.Sess := ⟨fun h => by subst h; simp, fun h => by cases x; cases y; simp_all⟩
instance : DecidableEq StateD := fun x y => decidable_of_iff (x.W = y.W ∧ x.H = y.H ∧ x.Limit = y.Limit ∧ x.Next = y.Next ∧ x.Panes = y.Panes ∧ x.Wins = y.Wins ∧ x.Sess = y.Sess) StateD.iff'.symm
structure OpD where
 Kind : Int
 A : Int
 B : Int
 C : Int
 Name : ByteArray
 Text : ByteArray
 Dir : ByteArray
 Data : List UInt8
theorem OpD.ext' {x y : OpD} (h0 : x.Kind = y.Kind) (h1 : x.A = y.A) (h2 : x.B = y.B) (h3 : x.C = y.C) (h4 : x.Name = y.Name) (h5 : x.Text = y.Text) (h6 : x.Dir = y.Dir) (h7 : x.Data = y.Data) : x = y := by cases x; cases y; simp_all
theorem OpD.iff' {x y : OpD} : x = y ↔ x.Kind = y.Kind ∧ x.A = y.A ∧ x.B = y.B ∧ x.C = y.C ∧ x.Name = y.Name ∧ x.Text = y.Text ∧ x.Dir = y.Dir ∧ x.Data = y.Data := ⟨fun h => by subst h; simp, fun h => by cases x; cases y; simp_all⟩
instance : DecidableEq OpD := fun x y => decidable_of_iff (x.Kind = y.Kind ∧ x.A = y.A ∧ x.B = y.B ∧ x.C = y.C ∧ x.Name = y.Name ∧ x.Text = y.Text ∧ x.Dir = y.Dir ∧ x.Data = y.Data) OpD.iff'.symm
structure ViewD where
 Grid : GridD
 X : Int
 Y : Int
 Hide : Bool
theorem ViewD.ext' {x y : ViewD} (h0 : x.Grid = y.Grid) (h1 : x.X = y.X) (h2 : x.Y = y.Y) (h3 : x.Hide = y.Hide) : x = y := by cases x; cases y; simp_all
theorem ViewD.iff' {x y : ViewD} : x = y ↔ x.Grid = y.Grid ∧ x.X = y.X ∧ x.Y = y.Y ∧ x.Hide = y.Hide := ⟨fun h => by subst h; simp, fun h => by cases x; cases y; simp_all⟩
instance : DecidableEq ViewD := fun x y => decidable_of_iff (x.Grid = y.Grid ∧ x.X = y.X ∧ x.Y = y.Y ∧ x.Hide = y.Hide) ViewD.iff'.symm
structure ProcD where
 Pid : Int
 Pane : Int
theorem ProcD.ext' {x y : ProcD} (h0 : x.Pid = y.Pid) (h1 : x.Pane = y.Pane) : x = y := by cases x; cases y; simp_all
theorem ProcD.iff' {x y : ProcD} : x = y ↔ x.Pid = y.Pid ∧ x.Pane = y.Pane := ⟨fun h => by subst h; simp, fun h => by cases x; cases y; simp_all⟩
instance : DecidableEq ProcD := fun x y => decidable_of_iff (x.Pid = y.Pid ∧ x.Pane = y.Pane) ProcD.iff'.symm
structure AskD where
 Pane : Int
 Cmd : ByteArray
 Dir : ByteArray
 W : Int
 H : Int
 Pid : Int
theorem AskD.ext' {x y : AskD} (h0 : x.Pane = y.Pane) (h1 : x.Cmd = y.Cmd) (h2 : x.Dir = y.Dir) (h3 : x.W = y.W) (h4 : x.H = y.H) (h5 : x.Pid = y.Pid) : x = y := by cases x; cases y; simp_all
theorem AskD.iff' {x y : AskD} : x = y ↔ x.Pane = y.Pane ∧ x.Cmd = y.Cmd ∧ x.Dir = y.Dir ∧ x.W = y.W ∧ x.H = y.H ∧ x.Pid = y.Pid := ⟨fun h => by subst h; simp, fun h => by cases x; cases y; simp_all⟩
instance : DecidableEq AskD := fun x y => decidable_of_iff (x.Pane = y.Pane ∧ x.Cmd = y.Cmd ∧ x.Dir = y.Dir ∧ x.W = y.W ∧ x.H = y.H ∧ x.Pid = y.Pid) AskD.iff'.symm
structure TableD where
 Next : Int
 Live : List ProcD
 Asked : List AskD
theorem TableD.ext' {x y : TableD} (h0 : x.Next = y.Next) (h1 : x.Live = y.Live) (h2 : x.Asked = y.Asked) : x = y := by cases x; cases y; simp_all
theorem TableD.iff' {x y : TableD} : x = y ↔ x.Next = y.Next ∧ x.Live = y.Live ∧ x.Asked = y.Asked := ⟨fun h => by subst h; simp, fun h => by cases x; cases y; simp_all⟩
instance : DecidableEq TableD := fun x y => decidable_of_iff (x.Next = y.Next ∧ x.Live = y.Live ∧ x.Asked = y.Asked) TableD.iff'.symm
structure HistD where
 Lost : Bool
 Op : OpD
theorem HistD.ext' {x y : HistD} (h0 : x.Lost = y.Lost) (h1 : x.Op = y.Op) : x = y := by cases x; cases y; simp_all
theorem HistD.iff' {x y : HistD} : x = y ↔ x.Lost = y.Lost ∧ x.Op = y.Op := ⟨fun h => by subst h; simp, fun h => by cases x; cases y; simp_all⟩
instance : DecidableEq HistD := fun x y => decidable_of_iff (x.Lost = y.Lost ∧ x.Op = y.Op) HistD.iff'.symm
structure SrvD where
 Base : StateD
 Top : Int
 Up : Bool
 St : StateD
 Dep : DepotD
 Disk : DiskD
 Tab : TableD
 Sure : Int
 Done : List HistD
theorem SrvD.ext' {x y : SrvD} (h0 : x.Base = y.Base) (h1 : x.Top = y.Top) (h2 : x.Up = y.Up) (h3 : x.St = y.St) (h4 : x.Dep = y.Dep) (h5 : x.Disk = y.Disk) (h6 : x.Tab = y.Tab) (h7 : x.Sure = y.Sure) (h8 : x.Done = y.Done) : x = y := by cases x; cases y; simp_all
theorem SrvD.iff' {x y : SrvD} : x = y ↔ x.Base = y.Base ∧ x.Top = y.Top ∧ x.Up = y.Up ∧ x.St = y.St ∧ x.Dep = y.Dep ∧ x.Disk = y.Disk ∧ x.Tab = y.Tab ∧ x.Sure = y.Sure ∧ x.Done = y.Done := ⟨fun h => by subst h; simp, fun h => by cases x; cases y; simp_all⟩
instance : DecidableEq SrvD := fun x y => decidable_of_iff (x.Base = y.Base ∧ x.Top = y.Top ∧ x.Up = y.Up ∧ x.St = y.St ∧ x.Dep = y.Dep ∧ x.Disk = y.Disk ∧ x.Tab = y.Tab ∧ x.Sure = y.Sure ∧ x.Done = y.Done) SrvD.iff'.symm
structure StepD where
 Kind : Int
 A : Int
 B : Int
 Text : ByteArray
 Data : List UInt8
 Cuts : List Int
theorem StepD.ext' {x y : StepD} (h0 : x.Kind = y.Kind) (h1 : x.A = y.A) (h2 : x.B = y.B) (h3 : x.Text = y.Text) (h4 : x.Data = y.Data) (h5 : x.Cuts = y.Cuts) : x = y := by cases x; cases y; simp_all
theorem StepD.iff' {x y : StepD} : x = y ↔ x.Kind = y.Kind ∧ x.A = y.A ∧ x.B = y.B ∧ x.Text = y.Text ∧ x.Data = y.Data ∧ x.Cuts = y.Cuts := ⟨fun h => by subst h; simp, fun h => by cases x; cases y; simp_all⟩
instance : DecidableEq StepD := fun x y => decidable_of_iff (x.Kind = y.Kind ∧ x.A = y.A ∧ x.B = y.B ∧ x.Text = y.Text ∧ x.Data = y.Data ∧ x.Cuts = y.Cuts) StepD.iff'.symm
structure RectD where
 Pane : Int
 X : Int
 Y : Int
 W : Int
 H : Int
theorem RectD.ext' {x y : RectD} (h0 : x.Pane = y.Pane) (h1 : x.X = y.X) (h2 : x.Y = y.Y) (h3 : x.W = y.W) (h4 : x.H = y.H) : x = y := by cases x; cases y; simp_all
theorem RectD.iff' {x y : RectD} : x = y ↔ x.Pane = y.Pane ∧ x.X = y.X ∧ x.Y = y.Y ∧ x.W = y.W ∧ x.H = y.H := ⟨fun h => by subst h; simp, fun h => by cases x; cases y; simp_all⟩
instance : DecidableEq RectD := fun x y => decidable_of_iff (x.Pane = y.Pane ∧ x.X = y.X ∧ x.Y = y.Y ∧ x.W = y.W ∧ x.H = y.H) RectD.iff'.symm
structure GridR where
  W : Int
  H : Int
  Cells : SlD CellD
def encGridR : Enc GridR := ⟨3, fun d => [i64 d.W, i64 d.H, .slice d.Cells.A d.Cells.n d.Cells.c], ⟨0, 0, ⟨none, 0, 0, []⟩⟩, fun _ => rfl, fun x v h => by simp at h; rcases h with rfl | rfl | rfl <;> rfl, by decide⟩
structure okGridR (B : Nat) (w : World) (x : GridR) : Prop where
  Cells : SlF encCell w x.Cells.A x.Cells.n x.Cells.xs
  Cells_c : x.Cells.n ≤ x.Cells.c
  Cells_n : x.Cells.n ≤ B
structure sepGridR (T : List Nat) (x : GridR) : Prop where
  Cells : 0 < x.Cells.n → (adr x.Cells.A).block ∉ T
theorem okGridR.st0 {B : Nat} {w0 w : World} {L : Hp} {x : GridR} (h : okGridR B w0 x) (hs : St w0 [] L w) : okGridR B w x := ⟨SlF.st0 h.Cells hs, h.Cells_c, h.Cells_n⟩
theorem okGridR.st {B : Nat} {w0 w : World} {T : List Nat} {L : Hp} {x : GridR} (h : okGridR B w0 x) (hs : St w0 T L w) (hp : sepGridR T x) : okGridR B w x := ⟨SlF.st h.Cells hs hp.Cells, h.Cells_c, h.Cells_n⟩
def GridR.dat (x : GridR) : GridD := ⟨x.W, x.H, x.Cells.xs⟩
def smGrid (B : Nat) (d : GridD) : Prop := (d.Cells.length ≤ B)
theorem okGridR.sm {B : Nat} {w : World} {x : GridR} (h : okGridR B w x) : smGrid B x.dat := (by have := h.Cells.len; have := h.Cells_n; simp only [smGrid, GridR.dat]; omega)
def totGrid (d : GridD) : Nat := d.Cells.length
theorem totGrid_sm {B : Nat} {d : GridD} (h : totGrid d ≤ B) : smGrid B d := by
  simp only [totGrid] at h
  unfold smGrid
  exact (by omega)
def ownGridR (x : GridR) (L : Hp) : Prop := OwnF encCell 108 (.slice x.Cells.A x.Cells.n x.Cells.c) x.Cells.xs L
theorem ownGridR.len {x : GridR} {L : Hp} (h : ownGridR x L) : x.Cells.xs.length = x.Cells.n := by
  exact (OwnF.len_ h)
theorem ownGridR.ok {B : Nat} {w : World} {x : GridR} {L : Hp} (h : ownGridR x L) (hh : ∀ p, p ∈ L → w.heap[p.1]? = some p.2) (h2 : smGrid B x.dat) : okGridR B w x := by
  exact ⟨SlF.ofOwn h (fun p hp => hh p hp), OwnF.cap h, (by have := OwnF.len_ h; have h3 := h2; simp only [GridR.dat, smGrid] at h3; omega)⟩
structure VpR where
  State : Int
  Mark : Bool
  Args : SlD Int
  Part : SlD UInt8
structure okVpR (B : Nat) (w : World) (x : VpR) : Prop where
  Args : SlF encI w x.Args.A x.Args.n x.Args.xs
  Args_c : x.Args.n ≤ x.Args.c
  Args_n : x.Args.n ≤ B
  Part : SlF encB w x.Part.A x.Part.n x.Part.xs
  Part_c : x.Part.n ≤ x.Part.c
  Part_n : x.Part.n ≤ B
structure sepVpR (T : List Nat) (x : VpR) : Prop where
  Args : 0 < x.Args.n → (adr x.Args.A).block ∉ T
  Part : 0 < x.Part.n → (adr x.Part.A).block ∉ T
theorem okVpR.st0 {B : Nat} {w0 w : World} {L : Hp} {x : VpR} (h : okVpR B w0 x) (hs : St w0 [] L w) : okVpR B w x := ⟨SlF.st0 h.Args hs, h.Args_c, h.Args_n, SlF.st0 h.Part hs, h.Part_c, h.Part_n⟩
theorem okVpR.st {B : Nat} {w0 w : World} {T : List Nat} {L : Hp} {x : VpR} (h : okVpR B w0 x) (hs : St w0 T L w) (hp : sepVpR T x) : okVpR B w x := ⟨SlF.st h.Args hs hp.Args, h.Args_c, h.Args_n, SlF.st h.Part hs hp.Part, h.Part_c, h.Part_n⟩
def VpR.dat (x : VpR) : VpD := ⟨x.State, x.Mark, x.Args.xs, x.Part.xs⟩
def smVp (B : Nat) (d : VpD) : Prop := (d.Args.length ≤ B) ∧ (d.Part.length ≤ B)
theorem okVpR.sm {B : Nat} {w : World} {x : VpR} (h : okVpR B w x) : smVp B x.dat := ⟨(by have := h.Args.len; have := h.Args_n; simp only [smVp, VpR.dat]; omega), (by have := h.Part.len; have := h.Part_n; simp only [smVp, VpR.dat]; omega)⟩
def ownVpR (x : VpR) (L : Hp) : Prop := ∃ L1 L2, L = L1 ++ L2 ∧ OwnF encI 3 (.slice x.Args.A x.Args.n x.Args.c) x.Args.xs L1 ∧ OwnF encB 5 (.slice x.Part.A x.Part.n x.Part.c) x.Part.xs L2
theorem ownVpR.fold {w0 w : World} {T : List Nat} {L1 L2 R : Hp} (x : VpR) (hs : St w0 T (L1 ++ (L2 ++ R)) w) (o1 : OwnF encI 3 (.slice x.Args.A x.Args.n x.Args.c) x.Args.xs L1) (o2 : OwnF encB 5 (.slice x.Part.A x.Part.n x.Part.c) x.Part.xs L2) : ∃ L, St w0 T (L ++ R) w ∧ ownVpR x L := ⟨L1 ++ L2, by simpa only [List.append_assoc] using hs, L1, L2, rfl, o1, o2⟩
theorem ownVpR.fl {w0 w : World} {T : List Nat} {L1 L2 L S1 S2 : Hp} [k1 : Fr1 L1 L S1] [k2 : Fr1 L2 S1 S2] {A1 : Option Addr} {n1 c1 : Nat} {x1 : _} {A2 : Option Addr} {n2 c2 : Nat} {x2 : _} (hs : St w0 T L w) (o1 : OwnF encI 3 (.slice A1 n1 c1) x1 L1) (o2 : OwnF encB 5 (.slice A2 n2 c2) x2 L2) : ∃ L', St w0 T (L' ++ S2) w ∧ ownVpR ⟨0, false, ⟨A1, n1, c1, x1⟩, ⟨A2, n2, c2, x2⟩⟩ L' := ⟨L1 ++ L2, by simpa only [List.append_assoc] using hs.perm ((List.Perm.append_left L1 k2.pf).trans k1.pf), L1, L2, rfl, o1, o2⟩
theorem ownVpR.op {w0 w : World} {T : List Nat} {L LL R : Hp} {x : VpR} [k : Fr1 LL L R] (hs : St w0 T L w) (h : ownVpR x LL) : ∃ L1 L2, St w0 T (L1 ++ (L2 ++ R)) w ∧ OwnF encI 3 (.slice x.Args.A x.Args.n x.Args.c) x.Args.xs L1 ∧ OwnF encB 5 (.slice x.Part.A x.Part.n x.Part.c) x.Part.xs L2 := by
  have hs := hs.fr LL
  obtain ⟨L1, L2, rfl, h⟩ := h
  exact ⟨L1, L2, by simpa only [List.append_assoc] using hs, h⟩
theorem ownVpR.ret {w w' : World} {K : List Nat} {L1 : Hp} {e : Ending} {D : VpD} {v0 : Int} {v1 : Bool} {A1 : Option Addr} {n1 c1 : Nat} {x1 : _} {A2 : Option Addr} {n2 c2 : Nat} {x2 : _} (he : e = .returned (.agg (List.toArray [i64 v0, .bool v1, .slice A1 n1 c1, .slice A2 n2 c2]))) (hs : St w K L1 w') (ho : ownVpR ⟨0, false, ⟨A1, n1, c1, x1⟩, ⟨A2, n2, c2, x2⟩⟩ L1) (hd : (⟨v0, v1, ⟨A1, n1, c1, x1⟩, ⟨A2, n2, c2, x2⟩⟩ : VpR).dat = D) : ∃ r L1, e = .returned (.agg #[i64 r.State, .bool r.Mark, .slice r.Args.A r.Args.n r.Args.c, .slice r.Part.A r.Part.n r.Part.c]) ∧ St w K L1 w' ∧ ownVpR r L1 ∧ r.dat = D := ⟨⟨v0, v1, ⟨A1, n1, c1, x1⟩, ⟨A2, n2, c2, x2⟩⟩, L1, he, hs, ho, hd⟩
theorem ownVpR.retp4 {R : Hp} {val : Value} {b t : Nat} {w w' : World} {K : List Nat} {L1 : Hp} {e : Ending} {D : VpD} {v0 : Int} {v1 : Bool} {A1 : Option Addr} {n1 c1 : Nat} {x1 : _} {A2 : Option Addr} {n2 c2 : Nat} {x2 : _} {u_0 u_1 u_2 u_3 : Value} (he : e = .returned val) (hs : St w K ((b, .cells (List.toArray (u_0 :: u_1 :: u_2 :: u_3 :: [i64 v0, .bool v1, .slice A1 n1 c1, .slice A2 n2 c2])) t (0, 0)) :: (L1 ++ R)) w') (ho : ownVpR ⟨0, false, ⟨A1, n1, c1, x1⟩, ⟨A2, n2, c2, x2⟩⟩ L1) (hd : (⟨v0, v1, ⟨A1, n1, c1, x1⟩, ⟨A2, n2, c2, x2⟩⟩ : VpR).dat = D) : ∃ r L1, e = .returned val ∧ St w K ([(b, .cells (List.toArray (u_0 :: u_1 :: u_2 :: u_3 :: [i64 r.State, .bool r.Mark, .slice r.Args.A r.Args.n r.Args.c, .slice r.Part.A r.Part.n r.Part.c])) t (0, 0))] ++ L1) w' ∧ ownVpR r L1 ∧ r.dat = D := ⟨⟨v0, v1, ⟨A1, n1, c1, x1⟩, ⟨A2, n2, c2, x2⟩⟩, L1, he, St.keepP hs, ho, hd⟩
theorem ownVpR.open_ {w0 w : World} {T : List Nat} {L R : Hp} {x : VpR} (hs : St w0 T (L ++ R) w) (h : ownVpR x L) : ∃ L1 L2, St w0 T (L1 ++ (L2 ++ R)) w ∧ OwnF encI 3 (.slice x.Args.A x.Args.n x.Args.c) x.Args.xs L1 ∧ OwnF encB 5 (.slice x.Part.A x.Part.n x.Part.c) x.Part.xs L2 := by
  obtain ⟨L1, L2, rfl, h⟩ := h
  exact ⟨L1, L2, by simpa only [List.append_assoc] using hs, h⟩
theorem ownVpR.len {x : VpR} {L : Hp} (h : ownVpR x L) : x.Args.xs.length = x.Args.n ∧ x.Part.xs.length = x.Part.n := by
  obtain ⟨L1, L2, rfl, o1, o2⟩ := h
  exact ⟨(OwnF.len_ o1), (OwnF.len_ o2)⟩
theorem ownVpR.ok {B : Nat} {w : World} {x : VpR} {L : Hp} (h : ownVpR x L) (hh : ∀ p, p ∈ L → w.heap[p.1]? = some p.2) (h2 : smVp B x.dat) : okVpR B w x := by
  obtain ⟨L1, L2, rfl, o1, o2⟩ := h
  simp only [List.mem_append] at hh
  exact ⟨SlF.ofOwn o1 (fun p hp => hh p (.inl hp)), OwnF.cap o1, (by have := OwnF.len_ o1; have h3 := h2.1; simp only [VpR.dat, smVp] at h3; omega), SlF.ofOwn o2 (fun p hp => hh p (.inr (hp))), OwnF.cap o2, (by have := OwnF.len_ o2; have h3 := h2.2; simp only [VpR.dat, smVp] at h3; omega)⟩
structure ActR where
  Kind : Int
  R : Int
  Mark : Bool
  Args : SlD Int
def encActR : Enc ActR := ⟨4, fun d => [i64 d.Kind, i64 d.R, .bool d.Mark, .slice d.Args.A d.Args.n d.Args.c], ⟨0, 0, false, ⟨none, 0, 0, []⟩⟩, fun _ => rfl, fun x v h => by simp at h; rcases h with rfl | rfl | rfl | rfl <;> rfl, by decide⟩
structure okActR (B : Nat) (w : World) (x : ActR) : Prop where
  Args : SlF encI w x.Args.A x.Args.n x.Args.xs
  Args_c : x.Args.n ≤ x.Args.c
  Args_n : x.Args.n ≤ B
structure sepActR (T : List Nat) (x : ActR) : Prop where
  Args : 0 < x.Args.n → (adr x.Args.A).block ∉ T
theorem okActR.st0 {B : Nat} {w0 w : World} {L : Hp} {x : ActR} (h : okActR B w0 x) (hs : St w0 [] L w) : okActR B w x := ⟨SlF.st0 h.Args hs, h.Args_c, h.Args_n⟩
theorem okActR.st {B : Nat} {w0 w : World} {T : List Nat} {L : Hp} {x : ActR} (h : okActR B w0 x) (hs : St w0 T L w) (hp : sepActR T x) : okActR B w x := ⟨SlF.st h.Args hs hp.Args, h.Args_c, h.Args_n⟩
def ActR.dat (x : ActR) : ActD := ⟨x.Kind, x.R, x.Mark, x.Args.xs⟩
def smAct (B : Nat) (d : ActD) : Prop := (d.Args.length ≤ B)
theorem okActR.sm {B : Nat} {w : World} {x : ActR} (h : okActR B w x) : smAct B x.dat := (by have := h.Args.len; have := h.Args_n; simp only [smAct, ActR.dat]; omega)
def ownActR (x : ActR) (L : Hp) : Prop := OwnF encI 3 (.slice x.Args.A x.Args.n x.Args.c) x.Args.xs L
theorem ownActR.len {x : ActR} {L : Hp} (h : ownActR x L) : x.Args.xs.length = x.Args.n := by
  exact (OwnF.len_ h)
theorem ownActR.ok {B : Nat} {w : World} {x : ActR} {L : Hp} (h : ownActR x L) (hh : ∀ p, p ∈ L → w.heap[p.1]? = some p.2) (h2 : smAct B x.dat) : okActR B w x := by
  exact ⟨SlF.ofOwn h (fun p hp => hh p hp), OwnF.cap h, (by have := OwnF.len_ h; have h3 := h2; simp only [ActR.dat, smAct] at h3; omega)⟩
structure RowR where
  Cells : SlD CellD
def encRowR : Enc RowR := ⟨1, fun d => [.slice d.Cells.A d.Cells.n d.Cells.c], ⟨⟨none, 0, 0, []⟩⟩, fun _ => rfl, fun x v h => by simp at h; rcases h with rfl <;> rfl, by decide⟩
structure okRowR (B : Nat) (w : World) (x : RowR) : Prop where
  Cells : SlF encCell w x.Cells.A x.Cells.n x.Cells.xs
  Cells_c : x.Cells.n ≤ x.Cells.c
  Cells_n : x.Cells.n ≤ B
structure sepRowR (T : List Nat) (x : RowR) : Prop where
  Cells : 0 < x.Cells.n → (adr x.Cells.A).block ∉ T
theorem okRowR.st0 {B : Nat} {w0 w : World} {L : Hp} {x : RowR} (h : okRowR B w0 x) (hs : St w0 [] L w) : okRowR B w x := ⟨SlF.st0 h.Cells hs, h.Cells_c, h.Cells_n⟩
theorem okRowR.st {B : Nat} {w0 w : World} {T : List Nat} {L : Hp} {x : RowR} (h : okRowR B w0 x) (hs : St w0 T L w) (hp : sepRowR T x) : okRowR B w x := ⟨SlF.st h.Cells hs hp.Cells, h.Cells_c, h.Cells_n⟩
def RowR.dat (x : RowR) : RowD := ⟨x.Cells.xs⟩
def smRow (B : Nat) (d : RowD) : Prop := (d.Cells.length ≤ B)
theorem okRowR.sm {B : Nat} {w : World} {x : RowR} (h : okRowR B w x) : smRow B x.dat := (by have := h.Cells.len; have := h.Cells_n; simp only [smRow, RowR.dat]; omega)
def totRow (d : RowD) : Nat := d.Cells.length
theorem totRow_sm {B : Nat} {d : RowD} (h : totRow d ≤ B) : smRow B d := by
  simp only [totRow] at h
  unfold smRow
  exact (by omega)
def ownRowR (x : RowR) (L : Hp) : Prop := OwnF encCell 108 (.slice x.Cells.A x.Cells.n x.Cells.c) x.Cells.xs L
theorem ownRowR.len {x : RowR} {L : Hp} (h : ownRowR x L) : x.Cells.xs.length = x.Cells.n := by
  exact (OwnF.len_ h)
theorem ownRowR.ok {B : Nat} {w : World} {x : RowR} {L : Hp} (h : ownRowR x L) (hh : ∀ p, p ∈ L → w.heap[p.1]? = some p.2) (h2 : smRow B x.dat) : okRowR B w x := by
  exact ⟨SlF.ofOwn h (fun p hp => hh p hp), OwnF.cap h, (by have := OwnF.len_ h; have h3 := h2; simp only [RowR.dat, smRow] at h3; omega)⟩
structure ScrR where
  W : Int
  H : Int
  Main : GridR
  Alt : GridR
  OnAlt : Bool
  X : Int
  Y : Int
  Wrap : Bool
  A : AttrD
  Top : Int
  Bot : Int
  NoWrap : Bool
  Hide : Bool
  SaveX : Int
  SaveY : Int
  SaveA : AttrD
  Tabs : SlD Int
  Limit : Int
  Back : SlD RowR
abbrev cScr (d : ScrR) : List Value := [i64 d.W, i64 d.H, i64 d.Main.W, i64 d.Main.H, .slice d.Main.Cells.A d.Main.Cells.n d.Main.Cells.c, i64 d.Alt.W, i64 d.Alt.H, .slice d.Alt.Cells.A d.Alt.Cells.n d.Alt.Cells.c, .bool d.OnAlt, i64 d.X, i64 d.Y, .bool d.Wrap, i64 d.A.Fg, i64 d.A.Bg, .bool d.A.Bold, .bool d.A.Under, .bool d.A.Turn, i64 d.Top, i64 d.Bot, .bool d.NoWrap, .bool d.Hide, i64 d.SaveX, i64 d.SaveY, i64 d.SaveA.Fg, i64 d.SaveA.Bg, .bool d.SaveA.Bold, .bool d.SaveA.Under, .bool d.SaveA.Turn, .slice d.Tabs.A d.Tabs.n d.Tabs.c, i64 d.Limit, .slice d.Back.A d.Back.n d.Back.c]
abbrev oS (u_0 u_1 u_2 u_3 : Value) (d : ScrR) : Obj := Obj.cells (List.toArray (u_0 :: u_1 :: u_2 :: u_3 :: cScr d)) 35 (0, 0)
structure okScrR (B : Nat) (w : World) (x : ScrR) : Prop where
  Main : okGridR B w x.Main
  Alt : okGridR B w x.Alt
  Tabs : SlF encI w x.Tabs.A x.Tabs.n x.Tabs.xs
  Tabs_c : x.Tabs.n ≤ x.Tabs.c
  Tabs_n : x.Tabs.n ≤ B
  Back : SlN encRowR (okRowR B) w x.Back.A x.Back.n x.Back.xs
  Back_c : x.Back.n ≤ x.Back.c
  Back_n : x.Back.n ≤ B
structure sepScrR (T : List Nat) (x : ScrR) : Prop where
  Main : sepGridR T x.Main
  Alt : sepGridR T x.Alt
  Tabs : 0 < x.Tabs.n → (adr x.Tabs.A).block ∉ T
  Back : 0 < x.Back.n → (adr x.Back.A).block ∉ T
  Back_a : ∀ y, y ∈ x.Back.xs → sepRowR T y
theorem okScrR.st0 {B : Nat} {w0 w : World} {L : Hp} {x : ScrR} (h : okScrR B w0 x) (hs : St w0 [] L w) : okScrR B w x := ⟨okGridR.st0 h.Main hs, okGridR.st0 h.Alt hs, SlF.st0 h.Tabs hs, h.Tabs_c, h.Tabs_n, ⟨SlF.st0 h.Back.sl hs, fun y hy => okRowR.st0 (h.Back.all y hy) hs⟩, h.Back_c, h.Back_n⟩
theorem okScrR.st {B : Nat} {w0 w : World} {T : List Nat} {L : Hp} {x : ScrR} (h : okScrR B w0 x) (hs : St w0 T L w) (hp : sepScrR T x) : okScrR B w x := ⟨okGridR.st h.Main hs hp.Main, okGridR.st h.Alt hs hp.Alt, SlF.st h.Tabs hs hp.Tabs, h.Tabs_c, h.Tabs_n, ⟨SlF.st h.Back.sl hs hp.Back, fun y hy => okRowR.st (h.Back.all y hy) hs (hp.Back_a y hy)⟩, h.Back_c, h.Back_n⟩
def ScrR.dat (x : ScrR) : ScrD := ⟨x.W, x.H, x.Main.dat, x.Alt.dat, x.OnAlt, x.X, x.Y, x.Wrap, x.A, x.Top, x.Bot, x.NoWrap, x.Hide, x.SaveX, x.SaveY, x.SaveA, x.Tabs.xs, x.Limit, x.Back.xs.map RowR.dat⟩
def smScr (B : Nat) (d : ScrD) : Prop := (smGrid B d.Main) ∧ (smGrid B d.Alt) ∧ (d.Tabs.length ≤ B) ∧ (d.Back.length ≤ B) ∧ (∀ y, y ∈ d.Back → smRow B y)
theorem okScrR.sm {B : Nat} {w : World} {x : ScrR} (h : okScrR B w x) : smScr B x.dat := ⟨h.Main.sm, h.Alt.sm, (by have := h.Tabs.len; have := h.Tabs_n; simp only [smScr, ScrR.dat]; omega), (by have := h.Back.sl.len; have := h.Back_n; simp only [smScr, ScrR.dat, List.length_map]; omega), (fun y hy => by obtain ⟨z, hz, rfl⟩ := List.mem_map.1 hy; exact (h.Back.all z hz).sm)⟩
def totScr (d : ScrD) : Nat := d.Main.Cells.length + d.Alt.Cells.length + d.Tabs.length + tots totRow d.Back
theorem totScr_sm {B : Nat} {d : ScrD} (h : totScr d ≤ B) : smScr B d := by
  simp only [totScr] at h
  unfold smScr
  exact ⟨(totGrid_sm (by simp only [totGrid]; omega)), (totGrid_sm (by simp only [totGrid]; omega)), (by omega), (by have := tots_len totRow d.Back; omega), (fun y hy => totRow_sm (by have := tots_mem (f := totRow) hy; omega))⟩
def ownScrR (x : ScrR) (L : Hp) : Prop := ∃ L1 L2 L3 L4, L = L1 ++ (L2 ++ (L3 ++ L4)) ∧ OwnF encCell 108 (.slice x.Main.Cells.A x.Main.Cells.n x.Main.Cells.c) x.Main.Cells.xs L1 ∧ OwnF encCell 108 (.slice x.Alt.Cells.A x.Alt.Cells.n x.Alt.Cells.c) x.Alt.Cells.xs L2 ∧ OwnF encI 3 (.slice x.Tabs.A x.Tabs.n x.Tabs.c) x.Tabs.xs L3 ∧ OwnN encRowR ownRowR 93 (.slice x.Back.A x.Back.n x.Back.c) x.Back.xs L4
theorem ownScrR.fold {w0 w : World} {T : List Nat} {L1 L2 L3 L4 R : Hp} (x : ScrR) (hs : St w0 T (L1 ++ (L2 ++ (L3 ++ (L4 ++ R)))) w) (o1 : OwnF encCell 108 (.slice x.Main.Cells.A x.Main.Cells.n x.Main.Cells.c) x.Main.Cells.xs L1) (o2 : OwnF encCell 108 (.slice x.Alt.Cells.A x.Alt.Cells.n x.Alt.Cells.c) x.Alt.Cells.xs L2) (o3 : OwnF encI 3 (.slice x.Tabs.A x.Tabs.n x.Tabs.c) x.Tabs.xs L3) (o4 : OwnN encRowR ownRowR 93 (.slice x.Back.A x.Back.n x.Back.c) x.Back.xs L4) : ∃ L, St w0 T (L ++ R) w ∧ ownScrR x L := ⟨L1 ++ (L2 ++ (L3 ++ L4)), by simpa only [List.append_assoc] using hs, L1, L2, L3, L4, rfl, o1, o2, o3, o4⟩
theorem ownScrR.fl {w0 w : World} {T : List Nat} {L1 L2 L3 L4 L S1 S2 S3 S4 : Hp} [k1 : Fr1 L1 L S1] [k2 : Fr1 L2 S1 S2] [k3 : Fr1 L3 S2 S3] [k4 : Fr1 L4 S3 S4] {A1 : Option Addr} {n1 c1 : Nat} {x1 : _} {A2 : Option Addr} {n2 c2 : Nat} {x2 : _} {A3 : Option Addr} {n3 c3 : Nat} {x3 : _} {A4 : Option Addr} {n4 c4 : Nat} {x4 : _} (hs : St w0 T L w) (o1 : OwnF encCell 108 (.slice A1 n1 c1) x1 L1) (o2 : OwnF encCell 108 (.slice A2 n2 c2) x2 L2) (o3 : OwnF encI 3 (.slice A3 n3 c3) x3 L3) (o4 : OwnN encRowR ownRowR 93 (.slice A4 n4 c4) x4 L4) : ∃ L', St w0 T (L' ++ S4) w ∧ ownScrR ⟨0, 0, ⟨0, 0, ⟨A1, n1, c1, x1⟩⟩, ⟨0, 0, ⟨A2, n2, c2, x2⟩⟩, false, 0, 0, false, ⟨0, 0, false, false, false⟩, 0, 0, false, false, 0, 0, ⟨0, 0, false, false, false⟩, ⟨A3, n3, c3, x3⟩, 0, ⟨A4, n4, c4, x4⟩⟩ L' := ⟨L1 ++ (L2 ++ (L3 ++ L4)), by simpa only [List.append_assoc] using hs.perm ((List.Perm.append_left L1 ((List.Perm.append_left L2 ((List.Perm.append_left L3 k4.pf).trans k3.pf)).trans k2.pf)).trans k1.pf), L1, L2, L3, L4, rfl, o1, o2, o3, o4⟩
theorem ownScrR.op {w0 w : World} {T : List Nat} {L LL R : Hp} {x : ScrR} [k : Fr1 LL L R] (hs : St w0 T L w) (h : ownScrR x LL) : ∃ L1 L2 L3 L4, St w0 T (L1 ++ (L2 ++ (L3 ++ (L4 ++ R)))) w ∧ OwnF encCell 108 (.slice x.Main.Cells.A x.Main.Cells.n x.Main.Cells.c) x.Main.Cells.xs L1 ∧ OwnF encCell 108 (.slice x.Alt.Cells.A x.Alt.Cells.n x.Alt.Cells.c) x.Alt.Cells.xs L2 ∧ OwnF encI 3 (.slice x.Tabs.A x.Tabs.n x.Tabs.c) x.Tabs.xs L3 ∧ OwnN encRowR ownRowR 93 (.slice x.Back.A x.Back.n x.Back.c) x.Back.xs L4 := by
  have hs := hs.fr LL
  obtain ⟨L1, L2, L3, L4, rfl, h⟩ := h
  exact ⟨L1, L2, L3, L4, by simpa only [List.append_assoc] using hs, h⟩
theorem ownScrR.ret {w w' : World} {K : List Nat} {L1 : Hp} {e : Ending} {D : ScrD} {v0 : Int} {v1 : Int} {v2 : Int} {v3 : Int} {A1 : Option Addr} {n1 c1 : Nat} {x1 : _} {v5 : Int} {v6 : Int} {A2 : Option Addr} {n2 c2 : Nat} {x2 : _} {v8 : Bool} {v9 : Int} {v10 : Int} {v11 : Bool} {v12 : Int} {v13 : Int} {v14 : Bool} {v15 : Bool} {v16 : Bool} {v17 : Int} {v18 : Int} {v19 : Bool} {v20 : Bool} {v21 : Int} {v22 : Int} {v23 : Int} {v24 : Int} {v25 : Bool} {v26 : Bool} {v27 : Bool} {A3 : Option Addr} {n3 c3 : Nat} {x3 : _} {v29 : Int} {A4 : Option Addr} {n4 c4 : Nat} {x4 : _} (he : e = .returned (.agg (List.toArray [i64 v0, i64 v1, i64 v2, i64 v3, .slice A1 n1 c1, i64 v5, i64 v6, .slice A2 n2 c2, .bool v8, i64 v9, i64 v10, .bool v11, i64 v12, i64 v13, .bool v14, .bool v15, .bool v16, i64 v17, i64 v18, .bool v19, .bool v20, i64 v21, i64 v22, i64 v23, i64 v24, .bool v25, .bool v26, .bool v27, .slice A3 n3 c3, i64 v29, .slice A4 n4 c4]))) (hs : St w K L1 w') (ho : ownScrR ⟨0, 0, ⟨0, 0, ⟨A1, n1, c1, x1⟩⟩, ⟨0, 0, ⟨A2, n2, c2, x2⟩⟩, false, 0, 0, false, ⟨0, 0, false, false, false⟩, 0, 0, false, false, 0, 0, ⟨0, 0, false, false, false⟩, ⟨A3, n3, c3, x3⟩, 0, ⟨A4, n4, c4, x4⟩⟩ L1) (hd : (⟨v0, v1, ⟨v2, v3, ⟨A1, n1, c1, x1⟩⟩, ⟨v5, v6, ⟨A2, n2, c2, x2⟩⟩, v8, v9, v10, v11, ⟨v12, v13, v14, v15, v16⟩, v17, v18, v19, v20, v21, v22, ⟨v23, v24, v25, v26, v27⟩, ⟨A3, n3, c3, x3⟩, v29, ⟨A4, n4, c4, x4⟩⟩ : ScrR).dat = D) : ∃ r L1, e = .returned (.agg (cScr r).toArray) ∧ St w K L1 w' ∧ ownScrR r L1 ∧ r.dat = D := ⟨⟨v0, v1, ⟨v2, v3, ⟨A1, n1, c1, x1⟩⟩, ⟨v5, v6, ⟨A2, n2, c2, x2⟩⟩, v8, v9, v10, v11, ⟨v12, v13, v14, v15, v16⟩, v17, v18, v19, v20, v21, v22, ⟨v23, v24, v25, v26, v27⟩, ⟨A3, n3, c3, x3⟩, v29, ⟨A4, n4, c4, x4⟩⟩, L1, he, hs, ho, hd⟩
theorem ownScrR.retp4 {R : Hp} {val : Value} {b t : Nat} {w w' : World} {K : List Nat} {L1 : Hp} {e : Ending} {D : ScrD} {v0 : Int} {v1 : Int} {v2 : Int} {v3 : Int} {A1 : Option Addr} {n1 c1 : Nat} {x1 : _} {v5 : Int} {v6 : Int} {A2 : Option Addr} {n2 c2 : Nat} {x2 : _} {v8 : Bool} {v9 : Int} {v10 : Int} {v11 : Bool} {v12 : Int} {v13 : Int} {v14 : Bool} {v15 : Bool} {v16 : Bool} {v17 : Int} {v18 : Int} {v19 : Bool} {v20 : Bool} {v21 : Int} {v22 : Int} {v23 : Int} {v24 : Int} {v25 : Bool} {v26 : Bool} {v27 : Bool} {A3 : Option Addr} {n3 c3 : Nat} {x3 : _} {v29 : Int} {A4 : Option Addr} {n4 c4 : Nat} {x4 : _} {u_0 u_1 u_2 u_3 : Value} (he : e = .returned val) (hs : St w K ((b, .cells (List.toArray (u_0 :: u_1 :: u_2 :: u_3 :: [i64 v0, i64 v1, i64 v2, i64 v3, .slice A1 n1 c1, i64 v5, i64 v6, .slice A2 n2 c2, .bool v8, i64 v9, i64 v10, .bool v11, i64 v12, i64 v13, .bool v14, .bool v15, .bool v16, i64 v17, i64 v18, .bool v19, .bool v20, i64 v21, i64 v22, i64 v23, i64 v24, .bool v25, .bool v26, .bool v27, .slice A3 n3 c3, i64 v29, .slice A4 n4 c4])) t (0, 0)) :: (L1 ++ R)) w') (ho : ownScrR ⟨0, 0, ⟨0, 0, ⟨A1, n1, c1, x1⟩⟩, ⟨0, 0, ⟨A2, n2, c2, x2⟩⟩, false, 0, 0, false, ⟨0, 0, false, false, false⟩, 0, 0, false, false, 0, 0, ⟨0, 0, false, false, false⟩, ⟨A3, n3, c3, x3⟩, 0, ⟨A4, n4, c4, x4⟩⟩ L1) (hd : (⟨v0, v1, ⟨v2, v3, ⟨A1, n1, c1, x1⟩⟩, ⟨v5, v6, ⟨A2, n2, c2, x2⟩⟩, v8, v9, v10, v11, ⟨v12, v13, v14, v15, v16⟩, v17, v18, v19, v20, v21, v22, ⟨v23, v24, v25, v26, v27⟩, ⟨A3, n3, c3, x3⟩, v29, ⟨A4, n4, c4, x4⟩⟩ : ScrR).dat = D) : ∃ r L1, e = .returned val ∧ St w K ([(b, .cells (List.toArray (u_0 :: u_1 :: u_2 :: u_3 :: (cScr r))) t (0, 0))] ++ L1) w' ∧ ownScrR r L1 ∧ r.dat = D := ⟨⟨v0, v1, ⟨v2, v3, ⟨A1, n1, c1, x1⟩⟩, ⟨v5, v6, ⟨A2, n2, c2, x2⟩⟩, v8, v9, v10, v11, ⟨v12, v13, v14, v15, v16⟩, v17, v18, v19, v20, v21, v22, ⟨v23, v24, v25, v26, v27⟩, ⟨A3, n3, c3, x3⟩, v29, ⟨A4, n4, c4, x4⟩⟩, L1, he, St.keepP hs, ho, hd⟩
theorem ownScrR.open_ {w0 w : World} {T : List Nat} {L R : Hp} {x : ScrR} (hs : St w0 T (L ++ R) w) (h : ownScrR x L) : ∃ L1 L2 L3 L4, St w0 T (L1 ++ (L2 ++ (L3 ++ (L4 ++ R)))) w ∧ OwnF encCell 108 (.slice x.Main.Cells.A x.Main.Cells.n x.Main.Cells.c) x.Main.Cells.xs L1 ∧ OwnF encCell 108 (.slice x.Alt.Cells.A x.Alt.Cells.n x.Alt.Cells.c) x.Alt.Cells.xs L2 ∧ OwnF encI 3 (.slice x.Tabs.A x.Tabs.n x.Tabs.c) x.Tabs.xs L3 ∧ OwnN encRowR ownRowR 93 (.slice x.Back.A x.Back.n x.Back.c) x.Back.xs L4 := by
  obtain ⟨L1, L2, L3, L4, rfl, h⟩ := h
  exact ⟨L1, L2, L3, L4, by simpa only [List.append_assoc] using hs, h⟩
theorem ownScrR.len {x : ScrR} {L : Hp} (h : ownScrR x L) : x.Main.Cells.xs.length = x.Main.Cells.n ∧ x.Alt.Cells.xs.length = x.Alt.Cells.n ∧ x.Tabs.xs.length = x.Tabs.n ∧ x.Back.xs.length = x.Back.n := by
  obtain ⟨L1, L2, L3, L4, rfl, o1, o2, o3, o4⟩ := h
  exact ⟨(OwnF.len_ o1), (OwnF.len_ o2), (OwnF.len_ o3), (OwnN.len_ o4)⟩
theorem ownScrR.ok {B : Nat} {w : World} {x : ScrR} {L : Hp} (h : ownScrR x L) (hh : ∀ p, p ∈ L → w.heap[p.1]? = some p.2) (h2 : smScr B x.dat) : okScrR B w x := by
  obtain ⟨L1, L2, L3, L4, rfl, o1, o2, o3, o4⟩ := h
  simp only [List.mem_append] at hh
  exact ⟨⟨SlF.ofOwn o1 (fun p hp => hh p (.inl hp)), OwnF.cap o1, (by have := OwnF.len_ o1; have h3 := h2.1; simp only [GridR.dat, ScrR.dat, smGrid, smScr] at h3; omega)⟩, ⟨SlF.ofOwn o2 (fun p hp => hh p (.inr (.inl hp))), OwnF.cap o2, (by have := OwnF.len_ o2; have h3 := h2.2.1; simp only [GridR.dat, ScrR.dat, smGrid, smScr] at h3; omega)⟩, SlF.ofOwn o3 (fun p hp => hh p (.inr (.inr (.inl hp)))), OwnF.cap o3, (by have := OwnF.len_ o3; have h3 := h2.2.2.1; simp only [GridR.dat, ScrR.dat, smGrid, smScr] at h3; omega), OwnN.ok o4 (fun p hp => hh p (.inr (.inr (.inr (hp))))) (fun y Li hy h3 hl => h3.ok hl (h2.2.2.2.2 _ (List.mem_map_of_mem hy))), OwnN.cap o4, (by have := OwnN.len_ o4; have h3 := h2.2.2.2.1; simp only [GridR.dat, ScrR.dat, smGrid, smScr, List.length_map] at h3; omega)⟩
structure TermR where
  P : VpR
  S : ScrR
structure okTermR (B : Nat) (w : World) (x : TermR) : Prop where
  P : okVpR B w x.P
  S : okScrR B w x.S
structure sepTermR (T : List Nat) (x : TermR) : Prop where
  P : sepVpR T x.P
  S : sepScrR T x.S
theorem okTermR.st0 {B : Nat} {w0 w : World} {L : Hp} {x : TermR} (h : okTermR B w0 x) (hs : St w0 [] L w) : okTermR B w x := ⟨okVpR.st0 h.P hs, okScrR.st0 h.S hs⟩
theorem okTermR.st {B : Nat} {w0 w : World} {T : List Nat} {L : Hp} {x : TermR} (h : okTermR B w0 x) (hs : St w0 T L w) (hp : sepTermR T x) : okTermR B w x := ⟨okVpR.st h.P hs hp.P, okScrR.st h.S hs hp.S⟩
def TermR.dat (x : TermR) : TermD := ⟨x.P.dat, x.S.dat⟩
def smTerm (B : Nat) (d : TermD) : Prop := (smVp B d.P) ∧ (smScr B d.S)
theorem okTermR.sm {B : Nat} {w : World} {x : TermR} (h : okTermR B w x) : smTerm B x.dat := ⟨h.P.sm, h.S.sm⟩
def ownTermR (x : TermR) (L : Hp) : Prop := ∃ L1 L2 L3 L4 L5 L6, L = L1 ++ (L2 ++ (L3 ++ (L4 ++ (L5 ++ L6)))) ∧ OwnF encI 3 (.slice x.P.Args.A x.P.Args.n x.P.Args.c) x.P.Args.xs L1 ∧ OwnF encB 5 (.slice x.P.Part.A x.P.Part.n x.P.Part.c) x.P.Part.xs L2 ∧ OwnF encCell 108 (.slice x.S.Main.Cells.A x.S.Main.Cells.n x.S.Main.Cells.c) x.S.Main.Cells.xs L3 ∧ OwnF encCell 108 (.slice x.S.Alt.Cells.A x.S.Alt.Cells.n x.S.Alt.Cells.c) x.S.Alt.Cells.xs L4 ∧ OwnF encI 3 (.slice x.S.Tabs.A x.S.Tabs.n x.S.Tabs.c) x.S.Tabs.xs L5 ∧ OwnN encRowR ownRowR 93 (.slice x.S.Back.A x.S.Back.n x.S.Back.c) x.S.Back.xs L6
theorem ownTermR.fold {w0 w : World} {T : List Nat} {L1 L2 L3 L4 L5 L6 R : Hp} (x : TermR) (hs : St w0 T (L1 ++ (L2 ++ (L3 ++ (L4 ++ (L5 ++ (L6 ++ R)))))) w) (o1 : OwnF encI 3 (.slice x.P.Args.A x.P.Args.n x.P.Args.c) x.P.Args.xs L1) (o2 : OwnF encB 5 (.slice x.P.Part.A x.P.Part.n x.P.Part.c) x.P.Part.xs L2) (o3 : OwnF encCell 108 (.slice x.S.Main.Cells.A x.S.Main.Cells.n x.S.Main.Cells.c) x.S.Main.Cells.xs L3) (o4 : OwnF encCell 108 (.slice x.S.Alt.Cells.A x.S.Alt.Cells.n x.S.Alt.Cells.c) x.S.Alt.Cells.xs L4) (o5 : OwnF encI 3 (.slice x.S.Tabs.A x.S.Tabs.n x.S.Tabs.c) x.S.Tabs.xs L5) (o6 : OwnN encRowR ownRowR 93 (.slice x.S.Back.A x.S.Back.n x.S.Back.c) x.S.Back.xs L6) : ∃ L, St w0 T (L ++ R) w ∧ ownTermR x L := ⟨L1 ++ (L2 ++ (L3 ++ (L4 ++ (L5 ++ L6)))), by simpa only [List.append_assoc] using hs, L1, L2, L3, L4, L5, L6, rfl, o1, o2, o3, o4, o5, o6⟩
theorem ownTermR.fl {w0 w : World} {T : List Nat} {L1 L2 L3 L4 L5 L6 L S1 S2 S3 S4 S5 S6 : Hp} [k1 : Fr1 L1 L S1] [k2 : Fr1 L2 S1 S2] [k3 : Fr1 L3 S2 S3] [k4 : Fr1 L4 S3 S4] [k5 : Fr1 L5 S4 S5] [k6 : Fr1 L6 S5 S6] {A1 : Option Addr} {n1 c1 : Nat} {x1 : _} {A2 : Option Addr} {n2 c2 : Nat} {x2 : _} {A3 : Option Addr} {n3 c3 : Nat} {x3 : _} {A4 : Option Addr} {n4 c4 : Nat} {x4 : _} {A5 : Option Addr} {n5 c5 : Nat} {x5 : _} {A6 : Option Addr} {n6 c6 : Nat} {x6 : _} (hs : St w0 T L w) (o1 : OwnF encI 3 (.slice A1 n1 c1) x1 L1) (o2 : OwnF encB 5 (.slice A2 n2 c2) x2 L2) (o3 : OwnF encCell 108 (.slice A3 n3 c3) x3 L3) (o4 : OwnF encCell 108 (.slice A4 n4 c4) x4 L4) (o5 : OwnF encI 3 (.slice A5 n5 c5) x5 L5) (o6 : OwnN encRowR ownRowR 93 (.slice A6 n6 c6) x6 L6) : ∃ L', St w0 T (L' ++ S6) w ∧ ownTermR ⟨⟨0, false, ⟨A1, n1, c1, x1⟩, ⟨A2, n2, c2, x2⟩⟩, ⟨0, 0, ⟨0, 0, ⟨A3, n3, c3, x3⟩⟩, ⟨0, 0, ⟨A4, n4, c4, x4⟩⟩, false, 0, 0, false, ⟨0, 0, false, false, false⟩, 0, 0, false, false, 0, 0, ⟨0, 0, false, false, false⟩, ⟨A5, n5, c5, x5⟩, 0, ⟨A6, n6, c6, x6⟩⟩⟩ L' := ⟨L1 ++ (L2 ++ (L3 ++ (L4 ++ (L5 ++ L6)))), by simpa only [List.append_assoc] using hs.perm ((List.Perm.append_left L1 ((List.Perm.append_left L2 ((List.Perm.append_left L3 ((List.Perm.append_left L4 ((List.Perm.append_left L5 k6.pf).trans k5.pf)).trans k4.pf)).trans k3.pf)).trans k2.pf)).trans k1.pf), L1, L2, L3, L4, L5, L6, rfl, o1, o2, o3, o4, o5, o6⟩
theorem ownTermR.op {w0 w : World} {T : List Nat} {L LL R : Hp} {x : TermR} [k : Fr1 LL L R] (hs : St w0 T L w) (h : ownTermR x LL) : ∃ L1 L2 L3 L4 L5 L6, St w0 T (L1 ++ (L2 ++ (L3 ++ (L4 ++ (L5 ++ (L6 ++ R)))))) w ∧ OwnF encI 3 (.slice x.P.Args.A x.P.Args.n x.P.Args.c) x.P.Args.xs L1 ∧ OwnF encB 5 (.slice x.P.Part.A x.P.Part.n x.P.Part.c) x.P.Part.xs L2 ∧ OwnF encCell 108 (.slice x.S.Main.Cells.A x.S.Main.Cells.n x.S.Main.Cells.c) x.S.Main.Cells.xs L3 ∧ OwnF encCell 108 (.slice x.S.Alt.Cells.A x.S.Alt.Cells.n x.S.Alt.Cells.c) x.S.Alt.Cells.xs L4 ∧ OwnF encI 3 (.slice x.S.Tabs.A x.S.Tabs.n x.S.Tabs.c) x.S.Tabs.xs L5 ∧ OwnN encRowR ownRowR 93 (.slice x.S.Back.A x.S.Back.n x.S.Back.c) x.S.Back.xs L6 := by
  have hs := hs.fr LL
  obtain ⟨L1, L2, L3, L4, L5, L6, rfl, h⟩ := h
  exact ⟨L1, L2, L3, L4, L5, L6, by simpa only [List.append_assoc] using hs, h⟩
theorem ownTermR.ret {w w' : World} {K : List Nat} {L1 : Hp} {e : Ending} {D : TermD} {v0 : Int} {v1 : Bool} {A1 : Option Addr} {n1 c1 : Nat} {x1 : _} {A2 : Option Addr} {n2 c2 : Nat} {x2 : _} {v4 : Int} {v5 : Int} {v6 : Int} {v7 : Int} {A3 : Option Addr} {n3 c3 : Nat} {x3 : _} {v9 : Int} {v10 : Int} {A4 : Option Addr} {n4 c4 : Nat} {x4 : _} {v12 : Bool} {v13 : Int} {v14 : Int} {v15 : Bool} {v16 : Int} {v17 : Int} {v18 : Bool} {v19 : Bool} {v20 : Bool} {v21 : Int} {v22 : Int} {v23 : Bool} {v24 : Bool} {v25 : Int} {v26 : Int} {v27 : Int} {v28 : Int} {v29 : Bool} {v30 : Bool} {v31 : Bool} {A5 : Option Addr} {n5 c5 : Nat} {x5 : _} {v33 : Int} {A6 : Option Addr} {n6 c6 : Nat} {x6 : _} (he : e = .returned (.agg (List.toArray [i64 v0, .bool v1, .slice A1 n1 c1, .slice A2 n2 c2, i64 v4, i64 v5, i64 v6, i64 v7, .slice A3 n3 c3, i64 v9, i64 v10, .slice A4 n4 c4, .bool v12, i64 v13, i64 v14, .bool v15, i64 v16, i64 v17, .bool v18, .bool v19, .bool v20, i64 v21, i64 v22, .bool v23, .bool v24, i64 v25, i64 v26, i64 v27, i64 v28, .bool v29, .bool v30, .bool v31, .slice A5 n5 c5, i64 v33, .slice A6 n6 c6]))) (hs : St w K L1 w') (ho : ownTermR ⟨⟨0, false, ⟨A1, n1, c1, x1⟩, ⟨A2, n2, c2, x2⟩⟩, ⟨0, 0, ⟨0, 0, ⟨A3, n3, c3, x3⟩⟩, ⟨0, 0, ⟨A4, n4, c4, x4⟩⟩, false, 0, 0, false, ⟨0, 0, false, false, false⟩, 0, 0, false, false, 0, 0, ⟨0, 0, false, false, false⟩, ⟨A5, n5, c5, x5⟩, 0, ⟨A6, n6, c6, x6⟩⟩⟩ L1) (hd : (⟨⟨v0, v1, ⟨A1, n1, c1, x1⟩, ⟨A2, n2, c2, x2⟩⟩, ⟨v4, v5, ⟨v6, v7, ⟨A3, n3, c3, x3⟩⟩, ⟨v9, v10, ⟨A4, n4, c4, x4⟩⟩, v12, v13, v14, v15, ⟨v16, v17, v18, v19, v20⟩, v21, v22, v23, v24, v25, v26, ⟨v27, v28, v29, v30, v31⟩, ⟨A5, n5, c5, x5⟩, v33, ⟨A6, n6, c6, x6⟩⟩⟩ : TermR).dat = D) : ∃ r L1, e = .returned (.agg #[i64 r.P.State, .bool r.P.Mark, .slice r.P.Args.A r.P.Args.n r.P.Args.c, .slice r.P.Part.A r.P.Part.n r.P.Part.c, i64 r.S.W, i64 r.S.H, i64 r.S.Main.W, i64 r.S.Main.H, .slice r.S.Main.Cells.A r.S.Main.Cells.n r.S.Main.Cells.c, i64 r.S.Alt.W, i64 r.S.Alt.H, .slice r.S.Alt.Cells.A r.S.Alt.Cells.n r.S.Alt.Cells.c, .bool r.S.OnAlt, i64 r.S.X, i64 r.S.Y, .bool r.S.Wrap, i64 r.S.A.Fg, i64 r.S.A.Bg, .bool r.S.A.Bold, .bool r.S.A.Under, .bool r.S.A.Turn, i64 r.S.Top, i64 r.S.Bot, .bool r.S.NoWrap, .bool r.S.Hide, i64 r.S.SaveX, i64 r.S.SaveY, i64 r.S.SaveA.Fg, i64 r.S.SaveA.Bg, .bool r.S.SaveA.Bold, .bool r.S.SaveA.Under, .bool r.S.SaveA.Turn, .slice r.S.Tabs.A r.S.Tabs.n r.S.Tabs.c, i64 r.S.Limit, .slice r.S.Back.A r.S.Back.n r.S.Back.c]) ∧ St w K L1 w' ∧ ownTermR r L1 ∧ r.dat = D := ⟨⟨⟨v0, v1, ⟨A1, n1, c1, x1⟩, ⟨A2, n2, c2, x2⟩⟩, ⟨v4, v5, ⟨v6, v7, ⟨A3, n3, c3, x3⟩⟩, ⟨v9, v10, ⟨A4, n4, c4, x4⟩⟩, v12, v13, v14, v15, ⟨v16, v17, v18, v19, v20⟩, v21, v22, v23, v24, v25, v26, ⟨v27, v28, v29, v30, v31⟩, ⟨A5, n5, c5, x5⟩, v33, ⟨A6, n6, c6, x6⟩⟩⟩, L1, he, hs, ho, hd⟩
theorem ownTermR.retp4 {R : Hp} {val : Value} {b t : Nat} {w w' : World} {K : List Nat} {L1 : Hp} {e : Ending} {D : TermD} {v0 : Int} {v1 : Bool} {A1 : Option Addr} {n1 c1 : Nat} {x1 : _} {A2 : Option Addr} {n2 c2 : Nat} {x2 : _} {v4 : Int} {v5 : Int} {v6 : Int} {v7 : Int} {A3 : Option Addr} {n3 c3 : Nat} {x3 : _} {v9 : Int} {v10 : Int} {A4 : Option Addr} {n4 c4 : Nat} {x4 : _} {v12 : Bool} {v13 : Int} {v14 : Int} {v15 : Bool} {v16 : Int} {v17 : Int} {v18 : Bool} {v19 : Bool} {v20 : Bool} {v21 : Int} {v22 : Int} {v23 : Bool} {v24 : Bool} {v25 : Int} {v26 : Int} {v27 : Int} {v28 : Int} {v29 : Bool} {v30 : Bool} {v31 : Bool} {A5 : Option Addr} {n5 c5 : Nat} {x5 : _} {v33 : Int} {A6 : Option Addr} {n6 c6 : Nat} {x6 : _} {u_0 u_1 u_2 u_3 : Value} (he : e = .returned val) (hs : St w K ((b, .cells (List.toArray (u_0 :: u_1 :: u_2 :: u_3 :: [i64 v0, .bool v1, .slice A1 n1 c1, .slice A2 n2 c2, i64 v4, i64 v5, i64 v6, i64 v7, .slice A3 n3 c3, i64 v9, i64 v10, .slice A4 n4 c4, .bool v12, i64 v13, i64 v14, .bool v15, i64 v16, i64 v17, .bool v18, .bool v19, .bool v20, i64 v21, i64 v22, .bool v23, .bool v24, i64 v25, i64 v26, i64 v27, i64 v28, .bool v29, .bool v30, .bool v31, .slice A5 n5 c5, i64 v33, .slice A6 n6 c6])) t (0, 0)) :: (L1 ++ R)) w') (ho : ownTermR ⟨⟨0, false, ⟨A1, n1, c1, x1⟩, ⟨A2, n2, c2, x2⟩⟩, ⟨0, 0, ⟨0, 0, ⟨A3, n3, c3, x3⟩⟩, ⟨0, 0, ⟨A4, n4, c4, x4⟩⟩, false, 0, 0, false, ⟨0, 0, false, false, false⟩, 0, 0, false, false, 0, 0, ⟨0, 0, false, false, false⟩, ⟨A5, n5, c5, x5⟩, 0, ⟨A6, n6, c6, x6⟩⟩⟩ L1) (hd : (⟨⟨v0, v1, ⟨A1, n1, c1, x1⟩, ⟨A2, n2, c2, x2⟩⟩, ⟨v4, v5, ⟨v6, v7, ⟨A3, n3, c3, x3⟩⟩, ⟨v9, v10, ⟨A4, n4, c4, x4⟩⟩, v12, v13, v14, v15, ⟨v16, v17, v18, v19, v20⟩, v21, v22, v23, v24, v25, v26, ⟨v27, v28, v29, v30, v31⟩, ⟨A5, n5, c5, x5⟩, v33, ⟨A6, n6, c6, x6⟩⟩⟩ : TermR).dat = D) : ∃ r L1, e = .returned val ∧ St w K ([(b, .cells (List.toArray (u_0 :: u_1 :: u_2 :: u_3 :: [i64 r.P.State, .bool r.P.Mark, .slice r.P.Args.A r.P.Args.n r.P.Args.c, .slice r.P.Part.A r.P.Part.n r.P.Part.c, i64 r.S.W, i64 r.S.H, i64 r.S.Main.W, i64 r.S.Main.H, .slice r.S.Main.Cells.A r.S.Main.Cells.n r.S.Main.Cells.c, i64 r.S.Alt.W, i64 r.S.Alt.H, .slice r.S.Alt.Cells.A r.S.Alt.Cells.n r.S.Alt.Cells.c, .bool r.S.OnAlt, i64 r.S.X, i64 r.S.Y, .bool r.S.Wrap, i64 r.S.A.Fg, i64 r.S.A.Bg, .bool r.S.A.Bold, .bool r.S.A.Under, .bool r.S.A.Turn, i64 r.S.Top, i64 r.S.Bot, .bool r.S.NoWrap, .bool r.S.Hide, i64 r.S.SaveX, i64 r.S.SaveY, i64 r.S.SaveA.Fg, i64 r.S.SaveA.Bg, .bool r.S.SaveA.Bold, .bool r.S.SaveA.Under, .bool r.S.SaveA.Turn, .slice r.S.Tabs.A r.S.Tabs.n r.S.Tabs.c, i64 r.S.Limit, .slice r.S.Back.A r.S.Back.n r.S.Back.c])) t (0, 0))] ++ L1) w' ∧ ownTermR r L1 ∧ r.dat = D := ⟨⟨⟨v0, v1, ⟨A1, n1, c1, x1⟩, ⟨A2, n2, c2, x2⟩⟩, ⟨v4, v5, ⟨v6, v7, ⟨A3, n3, c3, x3⟩⟩, ⟨v9, v10, ⟨A4, n4, c4, x4⟩⟩, v12, v13, v14, v15, ⟨v16, v17, v18, v19, v20⟩, v21, v22, v23, v24, v25, v26, ⟨v27, v28, v29, v30, v31⟩, ⟨A5, n5, c5, x5⟩, v33, ⟨A6, n6, c6, x6⟩⟩⟩, L1, he, St.keepP hs, ho, hd⟩
theorem ownTermR.open_ {w0 w : World} {T : List Nat} {L R : Hp} {x : TermR} (hs : St w0 T (L ++ R) w) (h : ownTermR x L) : ∃ L1 L2 L3 L4 L5 L6, St w0 T (L1 ++ (L2 ++ (L3 ++ (L4 ++ (L5 ++ (L6 ++ R)))))) w ∧ OwnF encI 3 (.slice x.P.Args.A x.P.Args.n x.P.Args.c) x.P.Args.xs L1 ∧ OwnF encB 5 (.slice x.P.Part.A x.P.Part.n x.P.Part.c) x.P.Part.xs L2 ∧ OwnF encCell 108 (.slice x.S.Main.Cells.A x.S.Main.Cells.n x.S.Main.Cells.c) x.S.Main.Cells.xs L3 ∧ OwnF encCell 108 (.slice x.S.Alt.Cells.A x.S.Alt.Cells.n x.S.Alt.Cells.c) x.S.Alt.Cells.xs L4 ∧ OwnF encI 3 (.slice x.S.Tabs.A x.S.Tabs.n x.S.Tabs.c) x.S.Tabs.xs L5 ∧ OwnN encRowR ownRowR 93 (.slice x.S.Back.A x.S.Back.n x.S.Back.c) x.S.Back.xs L6 := by
  obtain ⟨L1, L2, L3, L4, L5, L6, rfl, h⟩ := h
  exact ⟨L1, L2, L3, L4, L5, L6, by simpa only [List.append_assoc] using hs, h⟩
theorem ownTermR.len {x : TermR} {L : Hp} (h : ownTermR x L) : x.P.Args.xs.length = x.P.Args.n ∧ x.P.Part.xs.length = x.P.Part.n ∧ x.S.Main.Cells.xs.length = x.S.Main.Cells.n ∧ x.S.Alt.Cells.xs.length = x.S.Alt.Cells.n ∧ x.S.Tabs.xs.length = x.S.Tabs.n ∧ x.S.Back.xs.length = x.S.Back.n := by
  obtain ⟨L1, L2, L3, L4, L5, L6, rfl, o1, o2, o3, o4, o5, o6⟩ := h
  exact ⟨(OwnF.len_ o1), (OwnF.len_ o2), (OwnF.len_ o3), (OwnF.len_ o4), (OwnF.len_ o5), (OwnN.len_ o6)⟩
theorem ownTermR.ok {B : Nat} {w : World} {x : TermR} {L : Hp} (h : ownTermR x L) (hh : ∀ p, p ∈ L → w.heap[p.1]? = some p.2) (h2 : smTerm B x.dat) : okTermR B w x := by
  obtain ⟨L1, L2, L3, L4, L5, L6, rfl, o1, o2, o3, o4, o5, o6⟩ := h
  simp only [List.mem_append] at hh
  exact ⟨⟨SlF.ofOwn o1 (fun p hp => hh p (.inl hp)), OwnF.cap o1, (by have := OwnF.len_ o1; have h3 := h2.1.1; simp only [GridR.dat, ScrR.dat, TermR.dat, VpR.dat, smGrid, smScr, smTerm, smVp] at h3; omega), SlF.ofOwn o2 (fun p hp => hh p (.inr (.inl hp))), OwnF.cap o2, (by have := OwnF.len_ o2; have h3 := h2.1.2; simp only [GridR.dat, ScrR.dat, TermR.dat, VpR.dat, smGrid, smScr, smTerm, smVp] at h3; omega)⟩, ⟨⟨SlF.ofOwn o3 (fun p hp => hh p (.inr (.inr (.inl hp)))), OwnF.cap o3, (by have := OwnF.len_ o3; have h3 := h2.2.1; simp only [GridR.dat, ScrR.dat, TermR.dat, VpR.dat, smGrid, smScr, smTerm, smVp] at h3; omega)⟩, ⟨SlF.ofOwn o4 (fun p hp => hh p (.inr (.inr (.inr (.inl hp))))), OwnF.cap o4, (by have := OwnF.len_ o4; have h3 := h2.2.2.1; simp only [GridR.dat, ScrR.dat, TermR.dat, VpR.dat, smGrid, smScr, smTerm, smVp] at h3; omega)⟩, SlF.ofOwn o5 (fun p hp => hh p (.inr (.inr (.inr (.inr (.inl hp)))))), OwnF.cap o5, (by have := OwnF.len_ o5; have h3 := h2.2.2.2.1; simp only [GridR.dat, ScrR.dat, TermR.dat, VpR.dat, smGrid, smScr, smTerm, smVp] at h3; omega), OwnN.ok o6 (fun p hp => hh p (.inr (.inr (.inr (.inr (.inr (hp))))))) (fun y Li hy h3 hl => h3.ok hl (h2.2.2.2.2.2 _ (List.mem_map_of_mem hy))), OwnN.cap o6, (by have := OwnN.len_ o6; have h3 := h2.2.2.2.2.1; simp only [GridR.dat, ScrR.dat, TermR.dat, VpR.dat, smGrid, smScr, smTerm, smVp, List.length_map] at h3; omega)⟩⟩
def within (n lo hi : Int) : Bool := decide (lo ≤ n) && decide (n ≤ hi)
theorem within_iff {n lo hi : Int} : within n lo hi = true ↔ lo ≤ n ∧ n ≤ hi := by simp [within]
theorem within_not {n lo hi : Int} : within n lo hi = false ↔ ¬ (lo ≤ n ∧ n ≤ hi) := by rw [← within_iff]; simp
def shows (n : Int) : Bool := within n 32 126 || within n 160 65535 && !within n 55296 57343
def isNumB (n : Int) : Bool := decide (0 ≤ n) && decide (n ≤ 4294967295)
def varL (n : Nat) : List UInt8 := if n < 128 then [UInt8.ofNat n] else UInt8.ofNat (n % 128 + 128) :: varL (n / 128)
termination_by n
decreasing_by omega
theorem varL_small {n : Nat} (h : n < 128) : varL n = [UInt8.ofNat n] := by rw [varL, if_pos h]
theorem varL_big {n : Nat} (h : ¬ n < 128) : varL n = UInt8.ofNat (n % 128 + 128) :: varL (n / 128) := by rw [varL, if_neg h]
theorem varL_len (n : Nat) (h : n < 34359738368) : (varL n).length ≤ 5 := by
 have step : ∀ n, (varL n).length ≤ 1 + (if n < 128 then 0 else (varL (n / 128)).length) := by
  intro n
  by_cases h : n < 128
  ·rw [varL_small h, if_pos h]; simp
  ·rw [varL_big h, if_neg h]; simp; omega
 have h1 := step n
 have h2 := step (n / 128)
 have h3 := step (n / 128 / 128)
 have h4 := step (n / 128 / 128 / 128)
 have h5 := step (n / 128 / 128 / 128 / 128)
 have h6 : n / 128 / 128 / 128 / 128 < 128 := by omega
 rw [if_pos h6] at h5
 split at h1 <;> split at h2 <;> split at h3 <;> split at h4 <;> omega
def numsL (l : List Int) : List UInt8 := l.flatMap fun n => varL n.toNat
theorem numsL_len : ∀ {l : List Int}, (∀ x, x ∈ l → x ≤ 34359738367) → (numsL l).length ≤ 5 * l.length
 | [], _ => by simp [numsL]
 | x :: r, h => by
  have h1 := numsL_len (l := r) fun y hy => h y (List.mem_cons_of_mem _ hy)
  have h2 := varL_len x.toNat (by have := h x List.mem_cons_self; omega)
  have e : numsL (x :: r) = varL x.toNat ++ numsL r := rfl
  rw [e, List.length_append, List.length_cons]
  omega
def findI {α : Type} (p : α → Bool) (xs : List α) : Int := match xs.findIdx? p with | some i => (i : Int) | none => -1
theorem findI_some {α : Type} {F : Enc α} {p : α → Bool} {xs : List α} {i : Nat} (hi : i < xs.length) (h : ∀ j, j < i → p (gat F xs j) = false) (hp : p (gat F xs i) = true) : findI p xs = i := by
 have e : ∀ j (hj : j < xs.length), gat F xs j = xs[j] := fun j hj => by
  have := gat_get (F := F) hj
  rw [List.getElem?_eq_getElem hj] at this
  exact (Option.some.inj this).symm
 have : xs.findIdx? p = some i := by
  rw [List.findIdx?_eq_some_iff_getElem]
  refine ⟨hi, by rw [← e i hi]; exact hp, fun j hj => ?_⟩
  rw [← e j (by omega), h j hj]
  simp
 simp [findI, this]
theorem findI_none {α : Type} {F : Enc α} {p : α → Bool} {xs : List α} (h : ∀ j, j < xs.length → p (gat F xs j) = false) : findI p xs = -1 := by
 have : xs.findIdx? p = none := by
  rw [List.findIdx?_eq_none_iff]
  intro x hx
  obtain ⟨i, hi, rfl⟩ := List.mem_iff_getElem.1 hx
  have e := gat_get (F := F) hi
  rw [List.getElem?_eq_getElem hi] at e
  rw [Option.some.inj e]
  exact h i hi
 simp [findI, this]
theorem findI_cases {α : Type} {p : α → Bool} {xs : List α} : (findI p xs = -1 ∧ ∀ x, x ∈ xs → p x = false) ∨ ∃ i, ∃ h : i < xs.length, findI p xs = (i : Int) ∧ p xs[i] = true ∧ ∀ j, (hj : j < i) → p (xs[j]'(by omega)) = false := by
 cases e : xs.findIdx? p with
 | none => exact Or.inl ⟨by simp [findI, e], List.findIdx?_eq_none_iff.1 e⟩
 | some i =>
  obtain ⟨h1, h2, h3⟩ := List.findIdx?_eq_some_iff_getElem.1 e
  exact Or.inr ⟨i, h1, by simp [findI, e], h2, fun j hj => by simpa using h3 j hj⟩
def attrOk (fg bg : Int) : Bool := within fg 0 8 && within bg 0 8
def attrNum (a : AttrD) : Int :=
 if attrOk a.Fg a.Bg = true then 72 * a.Bg + 8 * a.Fg + (if a.Bold = true then 1 else 0) + (if a.Under = true then 2 else 0) + (if a.Turn = true then 4 else 0) else -1
def cellOk (c : CellD) : Bool := shows c.R && attrOk c.A.Fg c.A.Bg
theorem cellOk_bounds {c : CellD} (h : cellOk c = true) : 0 ≤ c.R ∧ c.R ≤ 65535 ∧ attrOk c.A.Fg c.A.Bg = true ∧ 0 ≤ attrNum c.A ∧ attrNum c.A ≤ 647 := by
 simp only [cellOk, Bool.and_eq_true] at h
 obtain ⟨h1, h2⟩ := h
 have h3 := h2
 simp [shows, within, attrOk] at h1 h2
 refine ⟨by omega, by omega, h3, ?_, ?_⟩ <;> unfold attrNum <;> rw [if_pos h3] <;> (repeat' split) <;> omega
def runB (n : Nat) (c : CellD) : List UInt8 := varL n ++ varL c.R.toNat ++ varL (attrNum c.A).toNat
def cellsGo : Nat → List CellD → List UInt8
 | _, [] => []
 | n, c :: l => if l.head? = some c then cellsGo (n + 1) l else runB (n + 1) c ++ cellsGo 0 l
def cellsB (l : List CellD) : List UInt8 := cellsGo 0 l
def cellsOk (l : List CellD) : Bool := l.all cellOk
theorem runB_len {n : Nat} {c : CellD} (h : n ≤ 4000) (hc : cellOk c = true) : (runB n c).length ≤ 15 := by
 have hb := cellOk_bounds hc
 have h1 := varL_len n (by omega)
 have h2 := varL_len c.R.toNat (by omega)
 have h3 := varL_len (attrNum c.A).toNat (by omega)
 simp only [runB, List.length_append]
 omega
theorem cellsGo_len : ∀ {l : List CellD} {n : Nat}, n + l.length ≤ 4000 → cellsOk l = true → (cellsGo n l).length ≤ 15 * l.length
 | [], n, _, _ => by simp [cellsGo]
 | c :: l, n, h, hc => by
  simp only [List.length_cons] at h
  simp only [cellsOk, List.all_cons, Bool.and_eq_true] at hc
  rw [cellsGo]
  split
  ·have := cellsGo_len (l := l) (n := n + 1) (by omega) hc.2
   simp only [List.length_cons]; omega
  ·have h1 := cellsGo_len (l := l) (n := 0) (by omega) hc.2
   have h2 := runB_len (n := n + 1) (by omega) hc.1
   simp only [List.length_append, List.length_cons]; omega
theorem cellsB_len {l : List CellD} (h : l.length ≤ 4000) (hc : cellsOk l = true) : (cellsB l).length ≤ 15 * l.length := cellsGo_len (by omega) hc
theorem cellsOk_gat {l : List CellD} {i : Nat} (h : cellsOk l = true) (hi : i < l.length) : cellOk (gat encCell l i) = true := by
 unfold cellsOk at h
 rw [List.all_eq_true] at h
 exact h _ (gat_mem hi)
theorem cellsOk_not {l : List CellD} {i : Nat} (hi : i < l.length) (h : cellOk (gat encCell l i) = false) : cellsOk l = false := by
 cases e : cellsOk l with
 | false => rfl
 | true => rw [cellsOk_gat e hi] at h; cases h
theorem cellsOk_all {l : List CellD} (h : ∀ i, i < l.length → cellOk (gat encCell l i) = true) : cellsOk l = true := by
 unfold cellsOk
 rw [List.all_eq_true]
 intro x hx
 obtain ⟨i, hi, rfl⟩ := List.mem_iff_getElem.1 hx
 have e := gat_get (F := encCell) hi
 rw [List.getElem?_eq_getElem hi] at e
 rw [Option.some.inj e]
 exact h i hi
theorem cellsOk_find {l : List CellD} : (!decide (0 ≤ findI (fun c => !cellOk c) l)) = cellsOk l := by
 rcases findI_cases (p := fun c => !cellOk c) (xs := l) with ⟨h1, h2⟩ | ⟨i, hi, h1, h2, _⟩
 ·rw [h1]
  have : cellsOk l = true := by
   unfold cellsOk
   rw [List.all_eq_true]
   intro x hx
   simpa using h2 x hx
  rw [this]; decide
 ·rw [h1]
  have : cellsOk l = false := by
   rw [← Bool.not_eq_true]
   intro h
   unfold cellsOk at h
   rw [List.all_eq_true] at h
   have := h _ (List.getElem_mem hi)
   simp [this] at h2
  rw [this]
  simp
theorem or8 {q m r k : Nat} (hq : q = 8 * m + r) (hr : r < 2 ^ k) (hk : k < 3) : q ||| 2 ^ k = q + 2 ^ k := by
 have hk2 : 2 ^ k ≤ 4 := by
  rcases k with _ | _ | _ | k
  ·decide
  ·decide
  ·decide
  ·omega
 have e1 : 8 * m + r = 8 * m ||| r := Nat.two_pow_add_eq_or_of_lt (i := 3) (by omega) m
 have e2 : r ||| 2 ^ k = r + 2 ^ k := by
  rcases k with _ | _ | _ | k
  ·have : r = 0 := by omega
   subst this; decide
  ·have : r = 0 ∨ r = 1 := by omega
   rcases this with rfl | rfl <;> decide
  ·have : r = 0 ∨ r = 1 ∨ r = 2 ∨ r = 3 := by omega
   rcases this with rfl | rfl | rfl | rfl <;> decide
  ·omega
 have e3 : 8 * m + (r + 2 ^ k) = 8 * m ||| (r + 2 ^ k) := Nat.two_pow_add_eq_or_of_lt (i := 3) (by omega) m
 rw [hq, e1, Nat.or_assoc, e2, ← e3, ← e1]
 omega
def attrBits (a : AttrD) (i : Nat) : Int := (if 0 < i ∧ a.Bold = true then 1 else 0) + (if 1 < i ∧ a.Under = true then 2 else 0) + (if 2 < i ∧ a.Turn = true then 4 else 0)
theorem attrNum_bits {a : AttrD} (h : attrOk a.Fg a.Bg = true) : attrNum a = 72 * a.Bg + 8 * a.Fg + attrBits a 3 := by
 unfold attrNum attrBits
 rw [if_pos h]
 simp; omega
theorem attrBits_set {fg bg q : Int} {bo un tu : Bool} {i : Nat} (hfg : 0 ≤ fg) (hbg : 0 ≤ bg) (h : q = 72 * bg + 8 * fg + attrBits ⟨fg, bg, bo, un, tu⟩ i) (hi : i < 3) (hb : gat encT [bo, un, tu] i = true) :
  ((q.toNat ||| (1 * 2 ^ i : Int).toNat : Nat) : Int) = 72 * bg + 8 * fg + attrBits ⟨fg, bg, bo, un, tu⟩ (i + 1) := by
 have e : ((1 * 2 ^ i : Int).toNat : Nat) = 2 ^ i := by rcases i with _ | _ | _ | i <;> first | rfl | omega
 have hr : ∃ r : Nat, attrBits ⟨fg, bg, bo, un, tu⟩ i = (r : Int) ∧ r < 2 ^ i := by
  rcases i with _ | _ | _ | i
  ·exact ⟨0, by simp [attrBits], by decide⟩
  ·cases bo
   ·exact ⟨0, by simp [attrBits], by decide⟩
   ·exact ⟨1, by simp [attrBits], by decide⟩
  ·cases bo <;> cases un
   ·exact ⟨0, by simp [attrBits], by decide⟩
   ·exact ⟨2, by simp [attrBits], by decide⟩
   ·exact ⟨1, by simp [attrBits], by decide⟩
   ·exact ⟨3, by simp [attrBits], by decide⟩
  ·omega
 obtain ⟨r, hr1, hr2⟩ := hr
 rw [e, or8 (m := (9 * bg + fg).toNat) (r := r) (by omega) hr2 hi]
 have hn : attrBits ⟨fg, bg, bo, un, tu⟩ (i + 1) = attrBits ⟨fg, bg, bo, un, tu⟩ i + ((2 ^ i : Nat) : Int) := by
  rcases i with _ | _ | _ | i
  ·simp [gat] at hb; simp [attrBits, hb]
  ·simp [gat] at hb; simp [attrBits, hb]
  ·simp [gat] at hb; simp [attrBits, hb]
  ·omega
 rw [hn]
 omega
theorem attrBits_skip {fg bg : Int} {bo un tu : Bool} {i : Nat} (hi : i < 3) (hb : gat encT [bo, un, tu] i = false) : attrBits ⟨fg, bg, bo, un, tu⟩ (i + 1) = attrBits ⟨fg, bg, bo, un, tu⟩ i := by
 rcases i with _ | _ | _ | i
 ·simp [gat] at hb; simp [attrBits, hb]
 ·simp [gat] at hb; simp [attrBits, hb]
 ·simp [gat] at hb; simp [attrBits, hb]
 ·omega
def naOk (n : Int) : Bool := decide (0 ≤ n) && decide (n < 648)
def naD (n : Int) : AttrD := if naOk n = true then ⟨n / 8 % 9, n / 72, decide (n % 2 = 1), decide (n / 2 % 2 = 1), decide (n / 4 % 2 = 1)⟩ else ⟨0, 0, false, false, false⟩
theorem naD_ok {n : Int} (h : naOk n = true) : attrOk (naD n).Fg (naD n).Bg = true ∧ attrNum (naD n) = n := by
 have h2 := h
 simp only [naOk, Bool.and_eq_true, decide_eq_true_eq] at h2
 unfold naD
 rw [if_pos h]
 have h3 : attrOk (n / 8 % 9) (n / 72) = true := by simp [attrOk, within]; omega
 refine ⟨h3, ?_⟩
 unfold attrNum
 rw [if_pos h3]
 simp only [decide_eq_true_eq]
 split <;> split <;> split <;> omega
theorem nbit {n : Int} (h0 : 0 ≤ n) (i : Nat) : ((((n.toNat &&& 2 ^ i : Nat)) : Int) = ((2 ^ i : Nat) : Int)) ↔ n / 2 ^ i % 2 = 1 := by
 obtain ⟨m, rfl⟩ : ∃ m : Nat, n = m := ⟨n.toNat, by omega⟩
 rw [Int.toNat_natCast]
 have e1 : ((m : Int) / 2 ^ i % 2 = 1) ↔ m / 2 ^ i % 2 = 1 := by
  have : ((m / 2 ^ i % 2 : Nat) : Int) = (m : Int) / 2 ^ i % 2 := by push_cast; rfl
  omega
 have e2 : m / 2 ^ i % 2 = 1 ↔ m.testBit i = true := by rw [Nat.testBit_eq_decide_div_mod_eq, decide_eq_true_eq]
 rw [e1, e2, Int.ofNat_inj]
 constructor
 ·intro h
  have := congrArg (fun z => z.testBit i) h
  simpa using this
 ·intro h
  apply Nat.eq_of_testBit_eq
  intro j
  rw [Nat.testBit_and, Nat.testBit_two_pow]
  by_cases hj : i = j
  ·subst hj; simp [h]
  ·simp [hj]
theorem nbit1 {n : Int} (h0 : 0 ≤ n) : ((((n.toNat &&& (2 : Int).toNat : Nat)) : Int) = 2) ↔ n / 2 % 2 = 1 := nbit h0 1
theorem nbit2 {n : Int} (h0 : 0 ≤ n) : ((((n.toNat &&& (4 : Int).toNat : Nat)) : Int) = 4) ↔ n / 4 % 2 = 1 := nbit h0 2
theorem naD_eq {n : Int} (h0 : 0 ≤ n) (h : naOk n = true) : naD n = ⟨n % 72 / 8, n / 72, decide (n % 2 = 1), decide (n / 2 % 2 = 1), decide (n / 4 % 2 = 1)⟩ := by
 unfold naD
 rw [if_pos h]
 congr 1
 omega
theorem impl_na {n : Int} (h0 : 0 ≤ n) : naOk n = decide (attrNum ⟨n % 72 / 8, n / 72, decide (n % 2 = 1), decide (n / 2 % 2 = 1), decide (n / 4 % 2 = 1)⟩ = n) := by
 rw [Bool.eq_iff_iff]
 simp only [naOk, Bool.and_eq_true, decide_eq_true_eq]
 unfold attrNum
 by_cases h : n < 648
 ·have h3 : attrOk (n % 72 / 8) (n / 72) = true := by simp [attrOk, within]; omega
  rw [if_pos h3]
  simp only [decide_eq_true_eq]
  constructor
  ·intro _
   split <;> split <;> split <;> omega
  ·intro _; omega
 ·have h3 : ¬ attrOk (n % 72 / 8) (n / 72) = true := by simp [attrOk, within]; omega
  rw [if_neg h3]
  omega
theorem gat_ext {α : Type} {F : Enc α} {a b : List α} (hl : a.length = b.length) (h : ∀ j, j < a.length → gat F a j = gat F b j) : a = b := by
 apply List.ext_getElem hl
 intro i h1 h2
 have e1 := gat_get (F := F) h1
 have e2 := gat_get (F := F) h2
 rw [List.getElem?_eq_getElem h1] at e1
 rw [List.getElem?_eq_getElem h2] at e2
 rw [Option.some.inj e1, Option.some.inj e2]
 exact h i h1
theorem u8_inj {a b : UInt8} (h : (a.toNat : Int) = (b.toNat : Int)) : a = b := UInt8.toNat_inj.1 (by omega)
def runeB (r : Int) : List UInt8 :=
 if shows r = false then [] else if r < 128 then [ub r] else if r < 2048 then [ub (192 + r / 64), ub (128 + r % 64)] else [ub (224 + r / 4096), ub (128 + r / 64 % 64), ub (128 + r % 64)]
theorem shows_iff {r : Int} : shows r = true ↔ (32 ≤ r ∧ r ≤ 126) ∨ (160 ≤ r ∧ r ≤ 65535 ∧ ¬ (55296 ≤ r ∧ r ≤ 57343)) := by
 simp [shows, within]; omega
theorem runeB_len (r : Int) : (runeB r).length ≤ 3 := by unfold runeB; (repeat' split) <;> simp
def tlOk (l : List UInt8) : Bool := l.all fun x => decide (x.toNat / 64 = 2)
def tlN (l : List UInt8) : Nat := l.foldl (fun n x => 64 * n + x.toNat % 64) 0
theorem tlN_take {l : List UInt8} {i : Nat} (h : i < l.length) : tlN (l.take (i + 1)) = 64 * tlN (l.take i) + (gat encB l i).toNat % 64 := by
 unfold tlN
 rw [List.take_add_one, gat_get (F := encB) h, List.foldl_append]
 rfl
theorem tlOk_take {l : List UInt8} {i : Nat} (h : i < l.length) : tlOk (l.take (i + 1)) = (tlOk (l.take i) && decide ((gat encB l i).toNat / 64 = 2)) := by
 unfold tlOk
 rw [List.take_add_one, gat_get (F := encB) h, List.all_append]
 simp
theorem tlOk_bad {l : List UInt8} {i : Nat} (h : i < l.length) (hx : (gat encB l i).toNat / 64 ≠ 2) : tlOk l = false := by
 rw [← Bool.not_eq_true]
 intro hh
 unfold tlOk at hh
 rw [List.all_eq_true] at hh
 have := hh _ (gat_mem (F := encB) h)
 simp at this
 exact hx this
def tlV (l : List UInt8) : Nat := if tlOk l = true then tlN l else 0
theorem tlN_one (x : UInt8) : tlN [x] = x.toNat % 64 := by simp [tlN]
theorem tlN_two (x y : UInt8) : tlN [x, y] = 64 * (x.toNat % 64) + y.toNat % 64 := by simp [tlN]
def rcls (a : UInt8) : Nat := if 192 ≤ a.toNat ∧ a.toNat ≤ 223 then 2 else if 224 ≤ a.toNat ∧ a.toNat ≤ 239 then 3 else 1
def cand : List UInt8 → Nat → Int
 | a :: _, 1 => a.toNat
 | a :: b :: _, 2 => ((a.toNat : Int) - 192) * 64 + b.toNat - 128
 | a :: b :: c :: _, 3 => (((a.toNat : Int) - 224) * 64 + b.toNat - 128) * 64 + c.toNat - 128
 | _, _ => 0
def rtry (l : List UInt8) (s : Nat) : Bool := decide (s ≤ l.length) && decide (runeB (cand l s) = l.take s)
def runeL (l : List UInt8) : Option (Int × Nat) :=
 if rtry l 1 = true then some (cand l 1, 1) else if rtry l 2 = true then some (cand l 2, 2) else if rtry l 3 = true then some (cand l 3, 3) else none
def rvN : Option (Int × Nat) → Int
 | none => 0
 | some x => x.1
def rvS : Option (Int × Nat) → Nat
 | none => 0
 | some x => x.2
theorem ub_eq {n : Int} {a : UInt8} (h0 : 0 ≤ n) (h1 : n < 256) : ub n = a ↔ n = a.toNat := by
 constructor
 ·rintro rfl
  rw [ub_toNat]; omega
 ·intro h
  apply u8_inj
  rw [ub_toNat]; omega
theorem rtry1 {a : UInt8} {l : List UInt8} : rtry (a :: l) 1 = true ↔ 32 ≤ a.toNat ∧ a.toNat ≤ 126 := by
 have ha := a.toNat_lt
 simp only [rtry, cand, List.length_cons, Bool.and_eq_true, decide_eq_true_eq, List.take_succ_cons, List.take_zero]
 unfold runeB
 cases hs : shows (a.toNat : Int) with
 | false =>
  have : ¬ shows (a.toNat : Int) = true := by rw [hs]; decide
  rw [shows_iff] at this
  simp; omega
 | true =>
  have := shows_iff.1 hs
  have e : ub (a.toNat : Int) = a := (ub_eq (by omega) (by omega)).2 rfl
  rw [if_neg (by decide)]
  split
  ·rw [e]; simp; omega
  ·split <;> simp <;> omega
theorem rtry2 {a b : UInt8} {l : List UInt8} : rtry (a :: b :: l) 2 = true ↔ 194 ≤ a.toNat ∧ a.toNat ≤ 223 ∧ b.toNat / 64 = 2 ∧ 160 ≤ ((a.toNat : Int) - 192) * 64 + b.toNat % 64 := by
 have ha := a.toNat_lt
 have hb := b.toNat_lt
 simp only [rtry, cand, List.length_cons, Bool.and_eq_true, decide_eq_true_eq, List.take_succ_cons, List.take_zero]
 generalize hr : ((a.toNat : Int) - 192) * 64 + b.toNat - 128 = r
 unfold runeB
 cases hs : shows r with
 | false =>
  have : ¬ shows r = true := by rw [hs]; decide
  rw [shows_iff] at this
  simp; omega
 | true =>
  have := shows_iff.1 hs
  rw [if_neg (by decide)]
  split
  ·simp; omega
  ·split
   ·simp only [List.cons.injEq, and_true]
    rw [ub_eq (by omega) (by omega), ub_eq (by omega) (by omega)]
    omega
   ·simp; omega
theorem rtry3 {a b c : UInt8} {l : List UInt8} : rtry (a :: b :: c :: l) 3 = true ↔ (224 ≤ a.toNat ∧ a.toNat ≤ 239) ∧ b.toNat / 64 = 2 ∧ c.toNat / 64 = 2 ∧ 2048 ≤ ((a.toNat : Int) - 224) * 4096 + (b.toNat % 64) * 64 + c.toNat % 64 ∧ shows (((a.toNat : Int) - 224) * 4096 + (b.toNat % 64) * 64 + c.toNat % 64) = true := by
 have ha := a.toNat_lt
 have hb := b.toNat_lt
 have hc := c.toNat_lt
 simp only [rtry, cand, List.length_cons, Bool.and_eq_true, decide_eq_true_eq, List.take_succ_cons, List.take_zero]
 generalize hr : (((a.toNat : Int) - 224) * 64 + b.toNat - 128) * 64 + c.toNat - 128 = r
 unfold runeB
 rw [shows_iff]
 cases hs : shows r with
 | false =>
  have : ¬ shows r = true := by rw [hs]; decide
  rw [shows_iff] at this
  simp; omega
 | true =>
  have := shows_iff.1 hs
  rw [if_neg (by decide)]
  split
  ·simp; omega
  ·split
   ·simp; omega
   ·simp only [List.cons.injEq, and_true]
    rw [ub_eq (by omega) (by omega), ub_eq (by omega) (by omega), ub_eq (by omega) (by omega)]
    omega
theorem rtry_len {l : List UInt8} {s : Nat} (h : l.length < s) : rtry l s = false := by
 unfold rtry
 rw [show decide (s ≤ l.length) = false from decide_eq_false (by omega)]
 rfl
theorem rtry_cls {a : UInt8} {l : List UInt8} {s : Nat} (hs : s = 1 ∨ s = 2 ∨ s = 3) (h : rtry (a :: l) s = true) : rcls a = s := by
 have ha := a.toNat_lt
 unfold rcls
 rcases hs with rfl | rfl | rfl
 ·have := rtry1.1 h
  rw [if_neg (by omega), if_neg (by omega)]
 ·cases l with
  | nil => rw [rtry_len (by simp)] at h; cases h
  | cons b r =>
   have := rtry2.1 h
   rw [if_pos (by omega)]
 ·match l, h with
  | [], h => rw [rtry_len (by simp)] at h; cases h
  | [b], h => rw [rtry_len (by simp)] at h; cases h
  | b :: c :: r, h =>
   have := rtry3.1 h
   rw [if_neg (by omega), if_pos (by omega)]
theorem rcls_or (a : UInt8) : rcls a = 1 ∨ rcls a = 2 ∨ rcls a = 3 := by
 unfold rcls
 split
 ·exact .inr (.inl rfl)
 ·split
  ·exact .inr (.inr rfl)
  ·exact .inl rfl
theorem runeL_cls {a : UInt8} {l : List UInt8} : runeL (a :: l) = if rtry (a :: l) (rcls a) = true then some (cand (a :: l) (rcls a), rcls a) else none := by
 unfold runeL
 by_cases h1 : rtry (a :: l) 1 = true
 ·rw [rtry_cls (.inl rfl) h1, if_pos h1, if_pos h1]
 ·rw [if_neg h1]
  by_cases h2 : rtry (a :: l) 2 = true
  ·rw [rtry_cls (.inr (.inl rfl)) h2, if_pos h2, if_pos h2]
  ·rw [if_neg h2]
   by_cases h3 : rtry (a :: l) 3 = true
   ·rw [rtry_cls (.inr (.inr rfl)) h3, if_pos h3]
   ·rw [if_neg h3]
    rcases rcls_or a with h | h | h <;> rw [h]
    ·rw [if_neg h1]
    ·rw [if_neg h2]
    ·rw [if_neg h3]
theorem runeL_nil : runeL [] = none := by
 unfold runeL
 rw [rtry_len (by simp), rtry_len (by simp), rtry_len (by simp)]
 simp
def runeBeg : List UInt8 → Bool
 | [a] => within a.toNat 194 239
 | [a, b] => decide (b.toNat / 64 = 2) && decide (224 ≤ a.toNat) && decide (2048 ≤ ((a.toNat : Int) - 224) * 4096 + (b.toNat % 64 : Nat) * 64) && shows (((a.toNat : Int) - 224) * 4096 + (b.toNat % 64 : Nat) * 64)
 | _ => false
theorem rvS_iff {a : UInt8} {l : List UInt8} {s : Nat} (hs : s = 2 ∨ s = 3) : rvS (runeL (a :: l)) = s ↔ rtry (a :: l) s = true := by
 rw [runeL_cls]
 have h1 := @rtry1 a l
 have h2 : rtry (a :: l) 2 = true → 194 ≤ a.toNat ∧ a.toNat ≤ 223 := by
  intro h
  cases l with
  | nil => rw [rtry_len (by simp)] at h; cases h
  | cons b r => have := rtry2.1 h; omega
 have h3 : rtry (a :: l) 3 = true → 224 ≤ a.toNat ∧ a.toNat ≤ 239 := by
  intro h
  match l with
  | [] => rw [rtry_len (by simp)] at h; cases h
  | [b] => rw [rtry_len (by simp)] at h; cases h
  | b :: c :: r => have := rtry3.1 h; omega
 constructor
 ·intro h
  split at h
  ·rename_i hh
   simp only [rvS] at h
   rw [← h]; exact hh
  ·simp only [rvS] at h; omega
 ·intro h
  have e : rcls a = s := by
   unfold rcls
   rcases hs with rfl | rfl
   ·have := h2 h
    rw [if_pos (by omega)]
   ·have := h3 h
    rw [if_neg (by omega), if_pos (by omega)]
  rw [e, if_pos h]
  rfl
def begHit (l : List UInt8) (x : UInt8) : Bool := decide (rvS (runeL (l ++ [x])) = l.length + 1) || (decide (l.length = 1) && decide (rvS (runeL (l ++ [x, 129])) = 3))
theorem beg_iff {l : List UInt8} (hl : l.length = 1 ∨ l.length = 2) : runeBeg l = true ↔ ∃ x : Nat, 128 ≤ x ∧ x < 192 ∧ begHit l (UInt8.ofNat x) = true := by
 have hof : ∀ x : Nat, x < 256 → (UInt8.ofNat x).toNat = x := fun x hx => by rw [UInt8.toNat_ofNat', Nat.mod_eq_of_lt hx]
 have h129 : (129 : UInt8).toNat = 129 := rfl
 match l, hl with
 | [a], _ =>
  have ha := a.toNat_lt
  have hb : ∀ x, begHit [a] x = true ↔ rtry [a, x] 2 = true ∨ rtry [a, x, 129] 3 = true := fun x => by
   simp only [begHit, List.length_singleton, List.singleton_append, Bool.or_eq_true, Bool.and_eq_true, decide_eq_true_eq, true_and]
   rw [← rvS_iff (.inl rfl), ← rvS_iff (.inr rfl)]
  simp only [runeBeg, within_iff]
  constructor
  ·intro h
   by_cases h2 : a.toNat ≤ 223
   ·refine ⟨191, by omega, by omega, (hb _).2 (.inl (rtry2.2 ?_))⟩
    rw [hof _ (by omega)]
    omega
   ·by_cases h3 : a.toNat = 237
    ·refine ⟨159, by omega, by omega, (hb _).2 (.inr (rtry3.2 ?_))⟩
     rw [hof _ (by omega), h129, shows_iff]
     omega
    ·refine ⟨191, by omega, by omega, (hb _).2 (.inr (rtry3.2 ?_))⟩
     rw [hof _ (by omega), h129, shows_iff]
     omega
  ·rintro ⟨x, h1, h2, h3⟩
   rcases (hb _).1 h3 with h4 | h4
   ·have := rtry2.1 h4; omega
   ·have := rtry3.1 h4; omega
 | [a, b], _ =>
  have ha := a.toNat_lt
  have hbt := b.toNat_lt
  have hb : ∀ x, begHit [a, b] x = true ↔ rtry [a, b, x] 3 = true := fun x => by
   simp only [begHit, List.length_cons, List.length_nil, List.cons_append, List.nil_append, Bool.or_eq_true, Bool.and_eq_true, decide_eq_true_eq]
   rw [← rvS_iff (.inr rfl)]
   simp
  simp only [runeBeg, Bool.and_eq_true, decide_eq_true_eq, shows_iff]
  constructor
  ·intro h
   refine ⟨128, by omega, by omega, (hb _).2 (rtry3.2 ?_)⟩
   rw [hof _ (by omega), shows_iff]
   omega
  ·rintro ⟨x, h1, h2, h3⟩
   have := rtry3.1 ((hb _).1 h3)
   rw [hof _ (by omega), shows_iff] at this
   omega
abbrev vp0 : VpD := ⟨0, false, [], []⟩
abbrev act0 : ActD := ⟨0, 0, false, []⟩
def areArgs (l : List Int) : Bool := decide (l.length ≤ 8) && l.all fun n => within n 0 9999
def vpOk (v : VpD) : Bool :=
 if v.State = 0 then (!v.Mark && decide (v.Args.length = 0)) && (decide (v.Part.length = 0) || runeBeg v.Part)
 else if v.State = 1 then (!v.Mark && decide (v.Args.length = 0)) && decide (v.Part.length = 0)
 else if v.State = 2 ∨ v.State = 3 then areArgs v.Args && decide (v.Part.length = 0) else false
def vpPlain (part : List UInt8) (b : Int) : VpD × ActD :=
 if b < 32 ∨ b = 127 then (vp0, ⟨2, b, false, []⟩) else if b < 127 then (vp0, ⟨1, b, false, []⟩)
 else if rvS (runeL (part ++ [ub b])) = (part ++ [ub b]).length then (vp0, ⟨1, rvN (runeL (part ++ [ub b])), false, []⟩)
 else if runeBeg (part ++ [ub b]) = true then (⟨0, false, [], part ++ [ub b]⟩, act0) else (vp0, ⟨1, 65533, false, []⟩)
def args1 (l : List Int) : List Int := if l.length = 0 then [0] else l
def vpDigit (v : VpD) (d : Int) : VpD := { v with Args := (args1 v.Args).set ((args1 v.Args).length - 1) (min 9999 (10 * iat (args1 v.Args) ((args1 v.Args).length - 1) + d)) }
def vpNext (v : VpD) : VpD := if (args1 v.Args).length + 1 > 8 then { v with State := 3, Args := (args1 v.Args ++ [0]).take 8 } else { v with Args := args1 v.Args ++ [0] }
def vpCsi (v : VpD) (b : Int) : VpD × ActD :=
 if (b = 63 ∧ v.Args.length = 0) ∧ v.Mark = false then ({ v with Mark := true }, act0)
 else if 48 ≤ b ∧ b ≤ 57 then (vpDigit v (b - 48), act0)
 else if b = 59 then (vpNext v, act0)
 else if 64 ≤ b ∧ b ≤ 126 then (vp0, ⟨4, b, v.Mark, v.Args⟩)
 else if b < 32 ∨ b = 127 then (v, ⟨2, b, false, []⟩)
 else ({ v with State := 3 }, act0)
def vpStep (v : VpD) (b : Int) : VpD × ActD :=
 if b = 27 then (⟨1, false, [], []⟩, act0) else if b = 24 ∨ b = 26 then (vp0, act0)
 else if v.State = 0 then vpPlain v.Part b
 else if v.State = 1 then (if b = 91 then (⟨2, false, [], []⟩, act0) else if 48 ≤ b ∧ b ≤ 126 then (vp0, ⟨3, b, false, []⟩) else (vp0, act0))
 else if v.State = 2 then vpCsi v b
 else if 64 ≤ b ∧ b ≤ 126 then (vp0, act0) else (v, act0)
def vpByte (v : VpD) (b : Int) : VpD × ActD := if vpOk v = true ∧ 0 ≤ b ∧ b ≤ 255 then vpStep v b else (vp0, act0)
theorem areArgs_iff {l : List Int} : areArgs l = true ↔ l.length ≤ 8 ∧ ∀ x, x ∈ l → 0 ≤ x ∧ x ≤ 9999 := by
 simp only [areArgs, Bool.and_eq_true, decide_eq_true_eq, List.all_eq_true, within_iff]
theorem args1_iff {l : List Int} (h : areArgs l = true) : areArgs (args1 l) = true ∧ 1 ≤ (args1 l).length := by
 unfold args1
 split
 ·exact ⟨by decide, by simp⟩
 ·exact ⟨h, by omega⟩
theorem vpDigit_ok {v : VpD} {d : Int} (h : areArgs v.Args = true) (hd : 0 ≤ d ∧ d ≤ 9) : areArgs (vpDigit v d).Args = true := by
 obtain ⟨h1, h2⟩ := args1_iff h
 rw [areArgs_iff] at h1 ⊢
 simp only [vpDigit, List.length_set]
 refine ⟨h1.1, fun x hx => ?_⟩
 rcases List.mem_or_eq_of_mem_set hx with hx | rfl
 ·exact h1.2 x hx
 ·have := h1.2 _ (gat_mem (F := encI) (show (args1 v.Args).length - 1 < (args1 v.Args).length by omega))
  have e : iat (args1 v.Args) ((args1 v.Args).length - 1) = gat encI (args1 v.Args) ((args1 v.Args).length - 1) := rfl
  rw [e]; omega
theorem vpNext_ok {v : VpD} (h : areArgs v.Args = true) : areArgs (vpNext v).Args = true := by
 obtain ⟨h1, h2⟩ := args1_iff h
 rw [areArgs_iff] at h1 ⊢
 unfold vpNext
 split
 ·refine ⟨by simp; omega, fun x hx => ?_⟩
  have := List.mem_of_mem_take hx
  rcases List.mem_append.1 this with hx | hx
  ·exact h1.2 x hx
  ·simp at hx; omega
 ·refine ⟨by simp; omega, fun x hx => ?_⟩
  rcases List.mem_append.1 hx with hx | hx
  ·exact h1.2 x hx
  ·simp at hx; omega
theorem vpOk_plain {p : List UInt8} (h : p = [] ∨ runeBeg p = true) : vpOk ⟨0, false, [], p⟩ = true := by
 unfold vpOk
 rw [if_pos rfl]
 rcases h with rfl | h
 ·rfl
 ·simp [h]
theorem vpOk_csi {v : VpD} (hs : v.State = 2 ∨ v.State = 3) : vpOk v = (areArgs v.Args && decide (v.Part.length = 0)) := by
 unfold vpOk
 rw [if_neg (by omega), if_neg (by omega), if_pos hs]
theorem vpPlain_ok {p : List UInt8} {b : Int} : vpOk (vpPlain p b).1 = true := by
 unfold vpPlain
 (repeat' split)
 ·rfl
 ·rfl
 ·rfl
 ·rename_i h; exact vpOk_plain (.inr h)
 ·rfl
theorem vpCsi_ok {v : VpD} {b : Int} (hs : v.State = 2) (h : vpOk v = true) : vpOk (vpCsi v b).1 = true := by
 have h2 := h
 rw [vpOk_csi (.inl hs), Bool.and_eq_true] at h2
 have key : ∀ v' : VpD, (v'.State = 2 ∨ v'.State = 3) → areArgs v'.Args = true → v'.Part = v.Part → vpOk v' = true := fun v' g1 g2 g3 => by
  rw [vpOk_csi g1, Bool.and_eq_true, g3]; exact ⟨g2, h2.2⟩
 unfold vpCsi
 (repeat' split)
 ·exact key _ (.inl hs) h2.1 rfl
 ·exact key _ (.inl hs) (vpDigit_ok h2.1 (by omega)) rfl
 ·refine key _ ?_ (vpNext_ok h2.1) ?_
  ·unfold vpNext; split <;> simp [hs]
  ·unfold vpNext; split <;> rfl
 ·rfl
 ·exact h
 ·exact key _ (.inr rfl) h2.1 rfl
theorem vpStep_ok {v : VpD} {b : Int} (h : vpOk v = true) : vpOk (vpStep v b).1 = true := by
 unfold vpStep
 (repeat' split)
 ·rfl
 ·rfl
 ·exact vpPlain_ok
 ·rfl
 ·rfl
 ·rfl
 ·rename_i hs; exact vpCsi_ok hs h
 ·rfl
 ·exact h
def vpParse : VpD → List UInt8 → VpD × List ActD
 | v, [] => (v, [])
 | v, x :: r => ((vpParse (vpStep v x.toNat).1 r).1, (if (vpStep v x.toNat).2.Kind = 0 then [] else [(vpStep v x.toNat).2]) ++ (vpParse (vpStep v x.toNat).1 r).2)
theorem vpParse_snoc : ∀ {l : List UInt8} {v : VpD} {x : UInt8}, vpParse v (l ++ [x]) = ((vpStep (vpParse v l).1 x.toNat).1, (vpParse v l).2 ++ (if (vpStep (vpParse v l).1 x.toNat).2.Kind = 0 then [] else [(vpStep (vpParse v l).1 x.toNat).2]))
 | [], v, x => by
  show (_, _ ++ []) = (_, [] ++ _)
  rw [List.append_nil, List.nil_append]; rfl
 | y :: r, v, x => by
  have h := vpParse_snoc (l := r) (v := (vpStep v y.toNat).1) (x := x)
  show ((vpParse _ (r ++ [x])).1, _ ++ (vpParse _ (r ++ [x])).2) = (_, (_ ++ _) ++ _)
  rw [h, List.append_assoc]; rfl
theorem vpParse_take {v : VpD} {l : List UInt8} {i : Nat} (h : i < l.length) : vpParse v (l.take (i + 1)) = ((vpStep (vpParse v (l.take i)).1 (gat encB l i).toNat).1, (vpParse v (l.take i)).2 ++ (if (vpStep (vpParse v (l.take i)).1 (gat encB l i).toNat).2.Kind = 0 then [] else [(vpStep (vpParse v (l.take i)).1 (gat encB l i).toNat).2])) := by
 rw [List.take_add_one, gat_get (F := encB) h]
 exact vpParse_snoc
theorem vpParse_ok : ∀ {l : List UInt8} {v : VpD}, vpOk v = true → vpOk (vpParse v l).1 = true
 | [], v, h => h
 | y :: r, v, h => vpParse_ok (l := r) (vpStep_ok h)
theorem vpParse_len : ∀ {l : List UInt8} {v : VpD}, (vpParse v l).2.length ≤ l.length
 | [], v => by simp [vpParse]
 | y :: r, v => by
  have h := vpParse_len (l := r) (v := (vpStep v y.toNat).1)
  simp only [vpParse, List.length_append, List.length_cons]
  split <;> simp <;> omega
theorem vpOk_len {v : VpD} (h : vpOk v = true) : v.Args.length ≤ 8 ∧ v.Part.length ≤ 2 := by
 unfold vpOk at h
 split at h
 ·simp only [Bool.and_eq_true, Bool.or_eq_true, decide_eq_true_eq] at h
  refine ⟨by omega, ?_⟩
  rcases h.2 with h2 | h2
  ·omega
  ·match hp : v.Part with
   | [] => simp
   | [a] => simp
   | [a, b] => simp
   | a :: b :: c :: r => rw [hp] at h2; cases h2
 ·split at h
  ·simp only [Bool.and_eq_true, decide_eq_true_eq] at h
   omega
  ·split at h
   ·rw [Bool.and_eq_true, areArgs_iff, decide_eq_true_eq] at h
    omega
   ·cases h
def vpBytes (v : VpD) (l : List UInt8) : VpD × List ActD := if vpOk v = true then vpParse v l else (vp0, [])
theorem tlN_bnd {l : List UInt8} (h : l.length ≤ 2) : tlN l ≤ 4095 ∧ (l.length ≤ 1 → tlN l ≤ 63) ∧ (l.length = 0 → tlN l = 0) := by
 match l, h with
 | [], _ => simp [tlN]
 | [a], _ => simp only [tlN_one, List.length_cons, List.length_nil]; omega
 | [a, b], _ => simp only [tlN_two, List.length_cons, List.length_nil]; omega
theorem tlV_bnd {l : List UInt8} (h : l.length ≤ 2) : tlV l ≤ 4095 ∧ (l.length ≤ 1 → tlV l ≤ 63) ∧ (l.length = 0 → tlV l = 0) := by
 have := tlN_bnd h
 unfold tlV; split <;> omega
def rfst (a : UInt8) (c : Nat) : Int := a.toNat - (if c = 2 then 192 else if c = 3 then 224 else 0)
def rsum (a : UInt8) (tl : List UInt8) (c : Nat) : Int := rfst a c * 64 ^ (c - 1) + tlV tl
theorem rsum_cand {a : UInt8} {l : List UInt8} {c : Nat} (hc : c = 1 ∨ c = 2 ∨ c = 3) (hl : c ≤ l.length + 1) (h : tlOk (l.take (c - 1)) = true) : cand (a :: l) c = rsum a (l.take (c - 1)) c := by
 have hv : tlV (l.take (c - 1)) = tlN (l.take (c - 1)) := by unfold tlV; rw [if_pos h]
 unfold rsum
 rw [hv]
 rcases hc with rfl | rfl | rfl
 ·simp [cand, rfst, tlN]
 ·match l, hl with
  | b :: r, _ =>
   simp only [tlOk, List.take_succ_cons, List.take_zero, List.all_cons, List.all_nil, Bool.and_true, decide_eq_true_eq] at h
   simp only [cand, rfst, List.take_succ_cons, List.take_zero, tlN_one]
   rw [show (64 : Int) ^ (2 - 1) = 64 from by decide, if_pos trivial]
   omega
 ·match l, hl with
  | b :: b2 :: r, _ =>
   simp only [tlOk, List.take_succ_cons, List.take_zero, List.all_cons, List.all_nil, Bool.and_true, decide_eq_true_eq, Bool.and_eq_true] at h
   simp only [cand, rfst, List.take_succ_cons, List.take_zero, tlN_two]
   rw [show (64 : Int) ^ (3 - 1) = 4096 from by decide, if_neg (by decide), if_pos trivial]
   omega
theorem rtry_tl {a : UInt8} {l : List UInt8} {c : Nat} (hc : c = 1 ∨ c = 2 ∨ c = 3) (h : rtry (a :: l) c = true) : tlOk (l.take (c - 1)) = true := by
 have hlen : c ≤ l.length + 1 := by
  rcases Nat.lt_or_ge (l.length + 1) c with h1 | h1
  ·rw [rtry_len (by simpa using h1)] at h; cases h
  ·exact h1
 rcases hc with rfl | rfl | rfl
 ·simp [tlOk]
 ·match l, hlen with
  | b :: r, _ =>
   have := rtry2.1 h
   simp [tlOk]; omega
 ·match l, hlen with
  | b :: b2 :: r, _ =>
   have := rtry3.1 h
   simp [tlOk]; omega
theorem runeL_rsum {a : UInt8} {l : List UInt8} {c : Nat} (hc : rcls a = c) : runeL (a :: l) = if c ≤ l.length + 1 ∧ tlOk (l.take (c - 1)) = true ∧ runeB (rsum a (l.take (c - 1)) c) = (a :: l).take c then some (rsum a (l.take (c - 1)) c, c) else none := by
 subst hc
 have ho := rcls_or a
 rw [runeL_cls]
 split
 ·rename_i h
  have h1 := rtry_tl ho h
  have h2 : rcls a ≤ (a :: l).length ∧ runeB (cand (a :: l) (rcls a)) = (a :: l).take (rcls a) := by simpa [rtry] using h
  have h3 := rsum_cand (a := a) ho h2.1 h1
  rw [if_pos ⟨h2.1, h1, by rw [← h3]; exact h2.2⟩, h3]
 ·rename_i h
  rw [if_neg]
  rintro ⟨h1, h2, h3⟩
  apply h
  have h4 := rsum_cand (a := a) ho h1 h2
  unfold rtry
  rw [h4, h3]
  simp; omega
theorem or_sum {x y : Nat} (k : Nat) (h : y < 2 ^ k) : (x * 2 ^ k) ||| y = x * 2 ^ k + y := by
 rw [Nat.mul_comm x, Nat.two_pow_add_eq_or_of_lt h]
theorem or_int {f : Int} {y : Nat} (k : Nat) (hf : 0 ≤ f) (h : y < 2 ^ k) : (((f * 2 ^ k).toNat ||| y : Nat) : Int) = f * 2 ^ k + y := by
 obtain ⟨m, rfl⟩ := Int.eq_ofNat_of_zero_le hf
 have e : (((m : Int) * 2 ^ k).toNat) = m * 2 ^ k := by
  have : ((m : Int) * 2 ^ k) = ((m * 2 ^ k : Nat) : Int) := by simp
  rw [this, Int.toNat_natCast]
 rw [e, or_sum k h]
 simp
theorem rread {b : List UInt8} {c : Nat} (hb : 1 ≤ b.length) (hc : rcls (bat b 0) = c) : runeL b = if c ≤ b.length ∧ tlOk ((b.drop 1).take (c - 1)) = true ∧ runeB (rsum (bat b 0) ((b.drop 1).take (c - 1)) c) = b.take c then some (rsum (bat b 0) ((b.drop 1).take (c - 1)) c, c) else none := by
 cases b with
 | nil => simp at hb
 | cons a l => exact runeL_rsum hc
theorem rread_yes {b : List UInt8} {c : Nat} {r : Int} (hb : 1 ≤ b.length) (hc : rcls (bat b 0) = c) (h1 : c ≤ b.length) (h2 : tlOk ((b.drop 1).take (c - 1)) = true) (hr : r = rsum (bat b 0) ((b.drop 1).take (c - 1)) c) (h3 : runeB r = b.take c) : runeL b = some (r, c) := by
 rw [rread hb hc, if_pos ⟨h1, h2, hr ▸ h3⟩, hr]
theorem rread_no {b : List UInt8} {c : Nat} (hb : 1 ≤ b.length) (hc : rcls (bat b 0) = c) (h : ∀ r : Int, r = rsum (bat b 0) ((b.drop 1).take (c - 1)) c → c ≤ b.length → tlOk ((b.drop 1).take (c - 1)) = true → runeB r = b.take c → False) : runeL b = none := by
 rw [rread hb hc, if_neg]
 rintro ⟨h1, h2, h3⟩
 exact h _ rfl h1 h2 h3
theorem p6 : ((6 : Int) * (1 - 1)).toNat = 0 ∧ ((6 : Int) * (2 - 1)).toNat = 6 ∧ ((6 : Int) * (3 - 1)).toNat = 12 := ⟨rfl, rfl, rfl⟩
theorem rsum_or {a : UInt8} {t : List UInt8} {c : Nat} {x : Int} (hc : c = 1 ∧ x = a.toNat * 2 ^ 0 ∨ c = 2 ∧ 192 ≤ a.toNat ∧ x = ((a.toNat : Int) - 192) * 2 ^ 6 ∨ c = 3 ∧ 224 ≤ a.toNat ∧ x = ((a.toNat : Int) - 224) * 2 ^ 12) (hl : t.length = c - 1) : ((x.toNat ||| ((tlV t : Nat) : Int).toNat : Nat) : Int) = rsum a t c := by
 have hb := tlV_bnd (l := t) (by omega)
 rw [Int.toNat_natCast]
 rcases hc with ⟨rfl, rfl⟩ | ⟨rfl, h1, rfl⟩ | ⟨rfl, h1, rfl⟩
 ·rw [or_int 0 (by omega) (by omega)]
  simp [rsum, rfst]
 ·rw [or_int 6 (by omega) (by omega)]
  simp [rsum, rfst]
 ·rw [or_int 12 (by omega) (by omega)]
  simp [rsum, rfst]
def candI (l : List UInt8) (s : Nat) : Nat → Int
 | 0 => (bat l 0).toNat - iat [0, 0, 192, 224] s
 | i + 1 => candI l s i * 64 + (bat l (i + 1)).toNat - 128
theorem candI_cand {l : List UInt8} {s : Nat} (h1 : 1 ≤ s) (h3 : s ≤ 3) (hl : s ≤ l.length) : candI l s (s - 1) = cand l s := by
 have : s = 1 ∨ s = 2 ∨ s = 3 := by omega
 rcases this with rfl | rfl | rfl
 ·match l, hl with
  | a :: r, _ => simp [candI, cand, gat, bat, iat]
 ·match l, hl with
  | a :: b :: r, _ => simp [candI, cand, gat, bat, iat]
 ·match l, hl with
  | a :: b :: c :: r, _ => simp [candI, cand, gat, bat, iat]
theorem candI_next {l : List UInt8} {s i : Nat} (h : 1 ≤ i) : candI l s (i + 1 - 1) = candI l s (i - 1) * 64 + (gat encB l i).toNat - 128 := by
 obtain ⟨j, rfl⟩ : ∃ j, i = j + 1 := ⟨i - 1, by omega⟩
 rfl
theorem t4_bnd (s : Nat) : 0 ≤ gat encI [0, 0, 192, 224] s ∧ gat encI [0, 0, 192, 224] s ≤ 224 := by
 match s with
 | 0 => decide
 | 1 => decide
 | 2 => decide
 | 3 => decide
 | _ + 4 => simp [iat, gat]; decide
theorem candI_bnd {l : List UInt8} {s i : Nat} (h : i ≤ 2) : -2000000 ≤ candI l s i ∧ candI l s i ≤ 2000000 := by
 have hi : 0 ≤ iat [0, 0, 192, 224] s ∧ iat [0, 0, 192, 224] s ≤ 224 := t4_bnd s
 have h0 := (bat l 0).toNat_lt
 have h1 := (bat l 1).toNat_lt
 have h2 := (bat l 2).toNat_lt
 generalize hx : iat [0, 0, 192, 224] s = x at hi
 have e0 : candI l s 0 = (bat l 0).toNat - x := by rw [← hx]; rfl
 have e1 : candI l s 1 = candI l s 0 * 64 + (bat l 1).toNat - 128 := rfl
 have e2 : candI l s 2 = candI l s 1 * 64 + (bat l 2).toNat - 128 := rfl
 have : i = 0 ∨ i = 1 ∨ i = 2 := by omega
 rcases this with rfl | rfl | rfl <;> omega
theorem rtry_iff {l : List UInt8} {s : Nat} (hl : s ≤ l.length) : (decide ((runeB (cand l s)).length = s) && decide (runeB (cand l s) = l.take s)) = rtry l s := by
 unfold rtry
 rw [show decide (s ≤ l.length) = true from decide_eq_true hl, Bool.true_and]
 by_cases h : runeB (cand l s) = l.take s
 ·rw [h]; simp [hl]
 ·simp [h]
theorem runeL_at {l : List UInt8} {s : Nat} (h : rtry l s = true) (h1 : 1 ≤ s) (h3 : s ≤ 3) (hn : ∀ t, 1 ≤ t → t < s → rtry l t = false) : runeL l = some (cand l s, s) := by
 unfold runeL
 have : s = 1 ∨ s = 2 ∨ s = 3 := by omega
 rcases this with rfl | rfl | rfl
 ·rw [if_pos h]
 ·rw [if_neg (by rw [hn 1 (by omega) (by omega)]; decide), if_pos h]
 ·rw [if_neg (by rw [hn 1 (by omega) (by omega)]; decide), if_neg (by rw [hn 2 (by omega) (by omega)]; decide), if_pos h]
theorem runeL_none {l : List UInt8} (hn : ∀ t, 1 ≤ t → t ≤ 3 → rtry l t = false) : runeL l = none := by
 unfold runeL
 rw [hn 1 (by omega) (by omega), hn 2 (by omega) (by omega), hn 3 (by omega) (by omega)]
 simp
theorem ub_nat {x : Nat} : ub (x : Int) = UInt8.ofNat x := by
 apply u8_inj
 rw [ub_toNat, UInt8.toNat_ofNat']
 omega
theorem beg_no {l : List UInt8} (hl : l.length = 1 ∨ l.length = 2) (h : ∀ x : Nat, 128 ≤ x → x < 192 → begHit l (ub x) = false) : runeBeg l = false := by
 rw [← Bool.not_eq_true, beg_iff hl]
 rintro ⟨x, h1, h2, h3⟩
 have := h x h1 h2
 rw [ub_nat, h3] at this
 cases this
theorem beg_yes {l : List UInt8} (hl : l.length = 1 ∨ l.length = 2) {x : Nat} (h1 : 128 ≤ x) (h2 : x < 192) (h : begHit l (ub x) = true) : runeBeg l = true := (beg_iff hl).2 ⟨x, h1, h2, by rwa [← ub_nat]⟩
theorem beg_len {l : List UInt8} (h : ¬ (l.length = 1 ∨ l.length = 2)) : runeBeg l = false := by
 match l, h with
 | [], _ => rfl
 | [_], h => simp at h
 | [_, _], h => simp at h
 | _ :: _ :: _ :: _, _ => rfl
theorem beg_two {b : List UInt8} (hb : b.length = 2) : (tlOk (b.drop 1) && decide (224 ≤ (((gat encB b 0).toNat : Nat) : Int)) && decide (2048 ≤ ((((gat encB b 0).toNat : Nat) : Int) - 224) * 4096 + ((tlV (b.drop 1) : Nat) : Int) * 64) && shows (((((gat encB b 0).toNat : Nat) : Int) - 224) * 4096 + ((tlV (b.drop 1) : Nat) : Int) * 64)) = runeBeg b := by
 match b, hb with
 | [x, y], _ =>
  have e1 : tlOk [y] = decide (y.toNat / 64 = 2) := by simp [tlOk]
  simp only [List.drop_succ_cons, List.drop_zero, runeBeg]
  by_cases h : y.toNat / 64 = 2
  ·have e2 : tlV [y] = y.toNat % 64 := by unfold tlV; rw [e1, if_pos (by simpa using h), tlN_one]
   rw [e1, e2]
   have e3 : gat encB [x, y] 0 = x := rfl
   rw [e3, show decide ((224 : Int) ≤ ((x.toNat : Nat) : Int)) = decide (224 ≤ x.toNat) from by simp only [decide_eq_decide]; omega]
  ·rw [e1, decide_eq_false h]; simp
theorem all_find {α : Type} {p : α → Bool} {l : List α} : (!decide (0 ≤ findI (fun x => !p x) l)) = l.all p := by
 rcases findI_cases (p := fun c => !p c) (xs := l) with ⟨h1, h2⟩ | ⟨i, hi, h1, h2, _⟩
 ·rw [h1]
  have : l.all p = true := by
   rw [List.all_eq_true]
   intro x hx
   simpa using h2 x hx
  rw [this]; decide
 ·rw [h1]
  have : l.all p = false := by
   rw [← Bool.not_eq_true]
   intro h
   rw [List.all_eq_true] at h
   have h3 := h _ (List.getElem_mem hi)
   rw [h3] at h2; cases h2
  rw [this]; simp
def vpBad (v : VpD) : Bool := ((decide (v.State < 0) || decide (3 < v.State)) || decide (8 < (v.Args.length : Int))) || (!(decide (v.State = 2) || decide (v.State = 3)) && (v.Mark || decide (0 < (v.Args.length : Int))))
theorem vpOk_bad {v : VpD} (h : vpBad v = true) : vpOk v = false := by
 rw [← Bool.not_eq_true]
 intro h2
 unfold vpOk at h2
 unfold vpBad at h
 simp only [Bool.or_eq_true, Bool.and_eq_true, decide_eq_true_eq, Bool.not_eq_true', Bool.or_eq_false_iff, decide_eq_false_iff_not] at h
 split at h2
 ·simp only [Bool.and_eq_true, Bool.not_eq_true', decide_eq_true_eq] at h2
  rcases h with ((h | h) | h) | ⟨_, h | h⟩
  ·omega
  ·omega
  ·omega
  ·rw [h2.1.1] at h; cases h
  ·omega
 ·split at h2
  ·simp only [Bool.and_eq_true, Bool.not_eq_true', decide_eq_true_eq] at h2
   rcases h with ((h | h) | h) | ⟨_, h | h⟩
   ·omega
   ·omega
   ·omega
   ·rw [h2.1.1] at h; cases h
   ·omega
  ·split at h2
   ·rw [Bool.and_eq_true, areArgs_iff] at h2
    rcases h with ((h | h) | h) | ⟨h, _⟩
    ·omega
    ·omega
    ·omega
    ·omega
   ·cases h2
theorem vpOk_arg {v : VpD} {j : Nat} (hj : j < v.Args.length) (h : within (gat encI v.Args j) 0 9999 = false) : vpOk v = false := by
 rw [← Bool.not_eq_true]
 intro h2
 unfold vpOk at h2
 split at h2
 ·simp only [Bool.and_eq_true, Bool.not_eq_true', decide_eq_true_eq] at h2; omega
 ·split at h2
  ·simp only [Bool.and_eq_true, Bool.not_eq_true', decide_eq_true_eq] at h2; omega
  ·split at h2
   ·rw [Bool.and_eq_true, areArgs_iff] at h2
    have h3 := h2.1.2 _ (gat_mem (F := encI) hj)
    rw [← within_iff, h] at h3; cases h3
   ·cases h2
theorem vpOk_end {v : VpD} (hb : vpBad v = false) (h : ∀ j, j < v.Args.length → within (gat encI v.Args j) 0 9999 = true) : vpOk v = (decide (v.Part.length = 0) || (decide (v.State = 0) && runeBeg v.Part)) := by
 unfold vpBad at hb
 simp only [Bool.or_eq_false_iff, Bool.and_eq_false_iff, decide_eq_false_iff_not, Bool.not_eq_false', Bool.or_eq_true, decide_eq_true_eq] at hb
 have ha : areArgs v.Args = true := by
  rw [areArgs_iff]
  refine ⟨by omega, fun x hx => ?_⟩
  obtain ⟨j, hj, rfl⟩ := List.mem_iff_getElem.1 hx
  have := h j hj
  rw [within_iff] at this
  have e := gat_get (F := encI) hj
  rw [List.getElem?_eq_getElem hj] at e
  rw [Option.some.inj e]; exact this
 by_cases h2 : v.State = 2 ∨ v.State = 3
 ·rw [vpOk_csi h2, ha, decide_eq_false (show ¬ v.State = 0 by omega)]; simp
 ·have h3 : v.Mark = false ∧ ¬ 0 < (v.Args.length : Int) := by
   rcases hb.2 with h4 | h4
   ·exact absurd h4 h2
   ·exact h4
  unfold vpOk
  have h0 : v.Args.length = 0 := by omega
  by_cases h5 : v.State = 0
  ·rw [if_pos h5, h3.1, decide_eq_true h0, decide_eq_true h5]; simp
  ·rw [if_neg h5, if_pos (by omega), h3.1, decide_eq_true h0, decide_eq_false h5]; simp
theorem areArgs_gat {l : List Int} {k : Nat} (h : areArgs l = true) (hk : k < l.length) : 0 ≤ gat encI l k ∧ gat encI l k ≤ 9999 := (areArgs_iff.1 h).2 _ (gat_mem (F := encI) hk)
theorem vpDigit_A {v : VpD} {d : Int} (h : v.Args.length = 0) : vpDigit v d = ⟨v.State, v.Mark, ([0] : List Int).set 0 (min 9999 (10 * gat encI [0] 0 + d)), v.Part⟩ := by unfold vpDigit args1; rw [if_pos h]; rfl
theorem vpDigit_B {v : VpD} {d : Int} (h : ¬ v.Args.length = 0) : vpDigit v d = ⟨v.State, v.Mark, v.Args.set (v.Args.length - 1) (min 9999 (10 * gat encI v.Args (v.Args.length - 1) + d)), v.Part⟩ := by unfold vpDigit args1; rw [if_neg h]
theorem vpNext_A {v : VpD} (h : v.Args.length = 0) : vpNext v = ⟨v.State, v.Mark, [0, 0], v.Part⟩ := by
 have e : args1 v.Args = [0] := if_pos h
 unfold vpNext; rw [e, if_neg (by decide)]; rfl
theorem vpNext_B {v : VpD} (h : ¬ v.Args.length = 0) (h8 : v.Args.length + 1 ≤ 8) : vpNext v = ⟨v.State, v.Mark, v.Args ++ [0], v.Part⟩ := by
 have e : args1 v.Args = v.Args := if_neg h
 unfold vpNext; rw [e, if_neg (by omega)]
theorem vpNext_C {v : VpD} (h8 : 8 < v.Args.length + 1) : vpNext v = ⟨3, v.Mark, (v.Args ++ [0]).take 8, v.Part⟩ := by
 have e : args1 v.Args = v.Args := if_neg (by omega)
 unfold vpNext; rw [e, if_pos (by omega)]
theorem vpNext_D {v : VpD} (h8 : v.Args.length = 8) : vpNext v = ⟨3, v.Mark, v.Args, v.Part⟩ := by
 rw [vpNext_C (by omega), List.take_append_of_le_length (by omega), List.take_of_length_le (by omega)]
end Go.Proofs.YtgigdjgjmfekkaaGreatDoor
