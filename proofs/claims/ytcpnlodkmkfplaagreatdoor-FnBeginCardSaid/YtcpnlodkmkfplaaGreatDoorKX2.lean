/-
  What the proof stands on, part 2.
-/
import Derived.Test.YtcpnlodkmkfplaaGreatDoorKX1
namespace Go.Proofs.YtcpnlodkmkfplaaGreatDoor
open Go Go.RowKit
set_option linter.unusedVariables false
set_option linter.unusedSimpArgs false
section
variable {P : Program} {n : Nat} {f : Fr} {w w0 : World} {T : List Nat} {R : Hp}
theorem WC.join {c : Code} {Q : Kont} (Post : Fr → World → Prop) (h : WC P n c (fun e f' w' => e = .normal ∧ Post f' w') f w) (k : ∀ f' w', Post f' w' → Q .normal f' w') : WC P n c Q f w :=
 h.mono fun e f' w' ⟨he, hp⟩ => he ▸ k f' w' hp
theorem St.swap (A : Hp) {x y : Nat × Obj} (h : St w0 T (A ++ (x :: y :: R)) w) : St w0 T (A ++ (y :: x :: R)) w := h.perm (List.Perm.append_left A (List.Perm.swap x y R))
theorem SlF.blk_lt {α : Type} {F : Enc α} {A : Option Addr} {m : Nat} {xs : List α} (h : SlF F w A m xs) (h0 : 0 < m) : (adr A).block < w.heap.size := by
 have hp := F.pos
 have hl : 0 < (rows F xs).length := by rw [rows_len, h.len]; exact Nat.mul_pos h0 hp
 have := h.rd.cell 0 _ (List.getElem?_eq_getElem hl)
 have := cell?_lt this
 rwa [add_block] at this
theorem St.sepT {α : Type} {F : Enc α} {A : Option Addr} {m : Nat} {xs : List α} {L1 : Hp} (hs : St w0 T (L1 ++ R) w) (h : SlF F w0 A m xs) (s : 0 < m → (adr A).block ∉ T) : 0 < m → (adr A).block ∉ L1.map (·.1) := by
 intro h0 hm
 obtain ⟨p, hp, he⟩ := List.mem_map.1 hm
 have h1 := h.blk_lt h0
 rcases (hs.own p (List.mem_append_left _ hp)).2 with h2 | h2
 ·omega
 ·exact s h0 (he ▸ h2)
theorem St.sepOwn {L1 : Hp} {p : Nat × Obj} (hs : St w0 T (L1 ++ R) w) (hp : p ∈ R) : p.1 ∉ L1.map (·.1) := by
 intro hm
 have hd := hs.nodup
 rw [List.map_append, List.nodup_append] at hd
 exact hd.2.2 _ hm _ (List.mem_map_of_mem hp) rfl
theorem St.nodupL {L1 : Hp} (hs : St w0 T (L1 ++ R) w) : (L1.map (·.1)).Nodup := by
 have hd := hs.nodup
 rw [List.map_append, List.nodup_append] at hd
 exact hd.1
end
section
variable {P : Program} {w : World} {o : Oper} {f : Fr} {x y : Operand} {t t' : TypeId} {k : IntKind} {a b : Int}
theorem Run.min (ho : o.op = .call { callee := .builtin .min, args := #[x, y], argTypes := #[t, t'] }) (hx : ev f x = some (.int k a)) (hy : ev f y = some (.int k b)) : Run P o f w (.value (.int k (Min.min a b))) w := fun ρ hρ => by
 have e : (if b < a then b else a) = Min.min a b := by split <;> omega
 simp [execOp, ho, hρ _ _ hx, hρ _ _ hy, resolve, invoke, builtin, go_sem, e]
theorem Run.max (ho : o.op = .call { callee := .builtin .max, args := #[x, y], argTypes := #[t, t'] }) (hx : ev f x = some (.int k a)) (hy : ev f y = some (.int k b)) : Run P o f w (.value (.int k (Max.max a b))) w := fun ρ hρ => by
 have e : (if a < b then b else a) = Max.max a b := by split <;> omega
 simp [execOp, ho, hρ _ _ hx, hρ _ _ hy, resolve, invoke, builtin, go_sem, e]
end
theorem Run.build {P : Program} {w : World} {o : Oper} {f : Fr} {t : TypeId} {parts : Array (Nat × Operand)} {ps : List (Nat × Operand)} {qs : List (Nat × Value)} {vs cl : List Value} (ho : o.op = .build t parts) (hps : parts.toList = ps) (hv : evs f (ps.map (·.2)) = some vs) (hz : (ps.map (·.1)).zip vs = qs) (hb : P.built t qs = some cl.toArray) : Run P o f w (.value (.agg cl.toArray)) w := fun ρ hρ => by
 have e : (parts.map fun p => (p.1, ρ p.2)).toList = qs := by
  rw [Array.toList_map, hps, ← hz]
  have := evs_map hρ hv
  rw [← this]
  clear hz hv hb this hps ho
  induction ps with
  | nil => rfl
  | cons a r ih => simp [ih]
 simp [execOp, ho, run_build w t _ cl.toArray (by rw [e]; exact hb)]
section
variable {P : Program} {w : World} {o : Oper} {f : Fr} {t t' : TypeId} {x y : Operand} {a b : Int}
theorem Run.nilCheck {p : Addr} (ho : o.op = .nilCheck x) (hx : ev f x = some (.pointer (some p))) : Run P o f w (.value (.pointer (some p))) w := fun ρ hρ => by
 simp [execOp, ho, hρ _ _ hx, asAddr, Instr.sureAddr, go_sem]
def bitsAnd (a b : Int) : Int := IntKind.i64.wrap ((BitVec.ofInt 64 a &&& BitVec.ofInt 64 b).toNat : Int)
def bitsXor (a b : Int) : Int := IntKind.i64.wrap ((BitVec.ofInt 64 a ^^^ BitVec.ofInt 64 b).toNat : Int)
theorem Run.andB (ho : o.op = .binOp .and t x y t') (hx : ev f x = some (.int .i64 a)) (hy : ev f y = some (.int .i64 b)) : Run P o f w (.value (.int .i64 (bitsAnd a b))) w := fun ρ hρ => by
 simp [execOp, ho, hρ _ _ hx, hρ _ _ hy, eqGuard, binOp, Op.intBits]
 rfl
theorem Run.xorB (ho : o.op = .binOp .xor t x y t') (hx : ev f x = some (.int .i64 a)) (hy : ev f y = some (.int .i64 b)) : Run P o f w (.value (.int .i64 (bitsXor a b))) w := fun ρ hρ => by
 simp [execOp, ho, hρ _ _ hx, hρ _ _ hy, eqGuard, binOp, Op.intBits]
 rfl
theorem bitsAnd_mask (a : Int) {m : Int} (h0 : 0 ≤ m) (h1 : m ≤ 9223372036854775807) : 0 ≤ bitsAnd a m ∧ bitsAnd a m ≤ m := by
 have h2 : (BitVec.ofInt 64 a &&& BitVec.ofInt 64 m).toNat ≤ m.toNat := by
  rw [BitVec.toNat_and, bvNat h0 h1]
  exact Nat.and_le_right
 have h3 : In64 (((BitVec.ofInt 64 a &&& BitVec.ofInt 64 m).toNat : Nat) : Int) := by constructor <;> omega
 have h4 : bitsAnd a m = ((BitVec.ofInt 64 a &&& BitVec.ofInt 64 m).toNat : Int) := wrap_in h3
 rw [h4]
 omega
end
theorem WC.loopV {P : Program} {n : Nat} {c : Code} {Q : Kont} {f : Fr} {w0 w : World} {T : List Nat} {R : Hp} {α : Type} (F : Fr) (hF : Sub F f) (L : α → Hp) (a0 : α) (hst : St w0 T (L a0 ++ R) w) (I : Nat → α → Fr → Prop) (k0 : Nat) (h0 : I k0 a0 f)
  (hr : ∀ k a f w, I k a f → Sub F f → St w0 T (L a ++ R) w → WC P n c (thenK (fun f' w' => Sub F f' ∧ ∃ a', St w0 T (L a' ++ R) w' ∧ ∃ k', k' < k ∧ I k' a' f') Q) f w) : WC P n (.loop c) Q f w :=
 WC.loopN (fun k f w => ∃ a, I k a f ∧ Sub F f ∧ St w0 T (L a ++ R) w) k0 ⟨a0, h0, hF, hst⟩ fun k f w ⟨a, h1, h2, h3⟩ => (hr k a f w h1 h2 h3).mono fun e f' w' q => by
  cases e
  case normal =>
   obtain ⟨q1, a', q2, k', q3, q4⟩ := q
   exact ⟨k', q3, a', q4, q1, q2⟩
  all_goals exact q
theorem St.take1 (w : World) (b : Nat) (o : Obj) (h : w.heap[b]? = some o) : St w [b] [(b, o)] w := by
 have := St.take w [(b, o)] (fun p hp => by simp at hp; subst hp; exact h) (by simp)
 exact this
section
variable {w0 w : World} {T : List Nat} {L1 L2 L3 L4 L5 L6 L7 L8 L9 R : Hp}
theorem St.grp1 (A : Hp) (h : St w0 T (A ++ (L1 ++ R)) w) : St w0 T ((A ++ (L1)) ++ R) w := by simpa only [List.append_assoc] using h
theorem St.ungrp1 (A : Hp) (h : St w0 T ((A ++ (L1)) ++ R) w) : St w0 T (A ++ (L1 ++ R)) w := by simpa only [List.append_assoc] using h
theorem St.grp2 (A : Hp) (h : St w0 T (A ++ (L1 ++ (L2 ++ R))) w) : St w0 T ((A ++ (L1 ++ L2)) ++ R) w := by simpa only [List.append_assoc] using h
theorem St.ungrp2 (A : Hp) (h : St w0 T ((A ++ (L1 ++ L2)) ++ R) w) : St w0 T (A ++ (L1 ++ (L2 ++ R))) w := by simpa only [List.append_assoc] using h
end
def Bag {α : Type} (own : α → Hp → Prop) : List α → Hp → Prop
 | [], L => L = []
 | x :: r, L => ∃ La Lb, L = La ++ Lb ∧ own x La ∧ Bag own r Lb
section
variable {α : Type} {own : α → Hp → Prop} {xs ys : List α} {x : α} {L La Lb : Hp}
theorem Bag.nil : Bag own [] [] := rfl
theorem Bag.append : ∀ {xs : List α} {La : Hp}, Bag own xs La → Bag own ys Lb → Bag own (xs ++ ys) (La ++ Lb)
 | [], La, h, k => by
  have : La = [] := h
  subst this; exact k
 | x :: r, La, h, k => by
  obtain ⟨L1, L2, rfl, h1, h2⟩ := h
  exact ⟨L1, L2 ++ Lb, by rw [List.append_assoc], h1, Bag.append h2 k⟩
theorem Bag.one (h : own x L) : Bag own [x] L := ⟨L, [], by simp, h, rfl⟩
theorem Bag.snoc (h : Bag own xs La) (k : own x Lb) : Bag own (xs ++ [x]) (La ++ Lb) := h.append (Bag.one k)
theorem Bag.split : ∀ {xs : List α} {L : Hp}, Bag own (xs ++ ys) L → ∃ La Lb, L = La ++ Lb ∧ Bag own xs La ∧ Bag own ys Lb
 | [], L, h => ⟨[], L, rfl, rfl, h⟩
 | x :: r, L, h => by
  obtain ⟨L1, L2, rfl, h1, h2⟩ := h
  obtain ⟨La, Lb, rfl, h3, h4⟩ := Bag.split h2
  exact ⟨L1 ++ La, Lb, by rw [List.append_assoc], ⟨L1, La, rfl, h1, h3⟩, h4⟩
theorem Bag.nth {F : Enc α} : ∀ {xs : List α} {L : Hp} {i : Nat}, Bag own xs L → i < xs.length → ∃ La Li Lb, L = La ++ (Li ++ Lb) ∧ own (gat F xs i) Li ∧ ∀ x' Li', own x' Li' → Bag own (xs.set i x') (La ++ (Li' ++ Lb))
 | [], _, _, _, hi => by simp at hi
 | x :: r, L, 0, h, _ => by
  obtain ⟨L1, L2, rfl, h1, h2⟩ := h
  exact ⟨[], L1, L2, rfl, h1, fun x' Li' hx => ⟨Li', L2, rfl, hx, h2⟩⟩
 | x :: r, L, i + 1, h, hi => by
  obtain ⟨L1, L2, rfl, h1, h2⟩ := h
  obtain ⟨La, Li, Lb, rfl, h3, h4⟩ := Bag.nth (F := F) (i := i) h2 (by simpa using hi)
  exact ⟨L1 ++ La, Li, Lb, by rw [List.append_assoc], by simpa [gat] using h3, fun x' Li' hx => ⟨L1, La ++ (Li' ++ Lb), by rw [List.append_assoc], h1, h4 x' Li' hx⟩⟩
theorem Bag.mem : ∀ {xs : List α} {L : Hp}, Bag own xs L → ∀ x, x ∈ xs → ∃ Li, own x Li ∧ ∀ p, p ∈ Li → p ∈ L
 | [], _, _, x, hx => by cases hx
 | y :: r, L, h, x, hx => by
  obtain ⟨L1, L2, rfl, h1, h2⟩ := h
  rcases List.mem_cons.1 hx with rfl | hx
  ·exact ⟨L1, h1, fun p hp => List.mem_append_left _ hp⟩
  ·obtain ⟨Li, h3, h4⟩ := Bag.mem h2 x hx
   exact ⟨Li, h3, fun p hp => List.mem_append_right _ (h4 p hp)⟩
end
structure SlD (α : Type) where
 A : Option Addr
 n : Nat
 c : Nat
 xs : List α
structure SlN {α : Type} (F : Enc α) (ok : World → α → Prop) (w : World) (A : Option Addr) (n : Nat) (xs : List α) : Prop where
 sl : SlF F w A n xs
 all : ∀ x, x ∈ xs → ok w x
section
variable {α : Type} {F : Enc α} {ok : World → α → Prop} {own : α → Hp → Prop} {w0 w : World} {A : Option Addr} {n c : Nat} {xs : List α} {L L0 L1 : Hp}
theorem SlN.len (h : SlN F ok w A n xs) : xs.length = n := h.sl.len
theorem SlN.nth (h : SlN F ok w A n xs) {i : Nat} (hi : i < n) : ok w (gat F xs i) := h.all _ (gat_mem (by rw [h.sl.len]; exact hi))
theorem SlN.st0 (hk : ∀ {w0 : World} {L : Hp} {w : World} {x : α}, ok w0 x → St w0 [] L w → ok w x) (h : SlN F ok w0 A n xs) (hs : St w0 [] L w) : SlN F ok w A n xs := ⟨SlF.st0 h.sl hs, fun x hx => hk (h.all x hx) hs⟩
theorem SlN.nil (w : World) (A : Option Addr) : SlN F ok w A 0 [] := ⟨SlF.nil _ _, fun x h => by cases h⟩
theorem SlN.ofOwn (hk : ∀ {x : α} {L : Hp} {w : World}, own x L → (∀ p, p ∈ L → w.heap[p.1]? = some p.2) → ok w x) {e : TypeId} (ho : OwnF F e (.slice A n c) xs L0) (hb : Bag own xs L1) (h0 : ∀ p, p ∈ L0 → w.heap[p.1]? = some p.2) (h1 : ∀ p, p ∈ L1 → w.heap[p.1]? = some p.2) : SlN F ok w A n xs :=
 ⟨SlF.ofOwn ho h0, fun x hx => by
  obtain ⟨Li, h2, h3⟩ := hb.mem x hx
  exact hk h2 fun p hp => h1 p (h3 p hp)⟩
end
inductive TK where
 | int (k : IntKind)
 | bool
 | str
 | slice (e : TypeId)
 | struct (offs : List Nat)
 | other
structure TyK where
 k : TK
 sz : Nat
 agg : Bool
inductive TT where
 | leaf
 | node (l : TT) (t : Nat) (v : TyK) (r : TT)
def TT.get : TT → Nat → Option TyK
 | .leaf, _ => none
 | .node l k v r, t => bif Nat.beq t k then some v else bif Nat.blt t k then l.get t else r.get t
section
variable (P : Program)
def AllSz : List Field → Prop
 | [] => True
 | f :: r => (∃ sz, (∀ w, (sizeOf f.type).run P w = .ok sz w) ∧ Nat.beq sz 0 = false) ∧ AllSz r
def TK.Ok (t : TypeId) : TK → Prop
 | .int k => ∀ w, (underlying t).run P w = .ok (.int k) w
 | .bool => ∀ w, (underlying t).run P w = .ok .bool w
 | .str => ∀ w, (underlying t).run P w = .ok .string w
 | .slice e => ∀ w, (underlying t).run P w = .ok (.slice e) w
 | .struct offs => ∃ fs, (∀ w, (underlying t).run P w = .ok (.struct fs) w) ∧ fs.toList.map (·.offset) = offs ∧ AllSz P fs.toList
 | .other => True
def TyK.Ok (t : TypeId) (v : TyK) : Prop := v.k.Ok P t ∧ (∀ w, (sizeOf t).run P w = .ok v.sz w) ∧ (∀ w, (isAgg t).run P w = .ok v.agg w)
def TT.Ok : TT → Prop
 | .leaf => True
 | .node l t v r => l.Ok ∧ v.Ok P t ∧ r.Ok
end
theorem TT.get_ok {P : Program} : ∀ {tb : TT} {t : Nat} {v : TyK}, tb.Ok P → tb.get t = some v → v.Ok P t
 | .leaf, _, _, _, h => by cases h
 | .node l k u r, t, v, h, hg => by
  unfold TT.get at hg
  cases hb : Nat.beq t k with
  | true =>
   rw [hb] at hg
   cases hg
   rw [Nat.eq_of_beq_eq_true hb]
   exact h.2.1
  | false =>
   rw [hb] at hg
   cases hl : Nat.blt t k with
   | true => rw [hl] at hg; exact TT.get_ok h.1 hg
   | false => rw [hl] at hg; exact TT.get_ok h.2.2 hg
theorem allSz_get {P : Program} : ∀ {fs : List Field} {i : Nat} {f : Field}, AllSz P fs → fs[i]? = some f → ∃ sz, (∀ w, (sizeOf f.type).run P w = .ok sz w) ∧ Nat.beq sz 0 = false
 | [], _, _, _, h => by simp at h
 | g :: r, 0, f, h, hi => by simp at hi; subst hi; exact h.1
 | g :: r, i + 1, f, h, hi => allSz_get (fs := r) (i := i) h.2 (by simpa using hi)
def ikB : IntKind → IntKind → Bool
 | .i64, .i64 => true
 | .u8, .u8 => true
 | .u32, .u32 => true
 | _, _ => false
theorem ikB_eq {a b : IntKind} (h : ikB a b = true) : a = b := by
 unfold ikB at h; split at h <;> first | rfl | cases h
def nthV : List Value → Nat → Option Value
 | [], _ => none
 | v :: _, 0 => some v
 | _ :: r, i + 1 => nthV r i
theorem nthV_eq : ∀ (l : List Value) (i : Nat), nthV l i = l[i]?
 | [], _ => by simp [nthV]
 | v :: _, 0 => by simp [nthV]
 | _ :: r, i + 1 => by simp [nthV, nthV_eq r i]
def nthN : List Nat → Nat → Option Nat
 | [], _ => none
 | v :: _, 0 => some v
 | _ :: r, i + 1 => nthN r i
theorem nthN_eq : ∀ (l : List Nat) (i : Nat), nthN l i = l[i]?
 | [], _ => by simp [nthN]
 | v :: _, 0 => by simp [nthN]
 | _ :: r, i + 1 => by simp [nthN, nthN_eq r i]
section
variable {β : Type}
def dropK : List Value → Nat → (List Value → Option β) → Option β
 | l, 0, k => k l
 | [], _ + 1, _ => none
 | _ :: r, i + 1, k => dropK r i k
def takeK : List Value → Nat → (List Value → Option β) → Option β
 | _, 0, k => k []
 | [], _ + 1, _ => none
 | v :: r, i + 1, k => takeK r i fun q => k (v :: q)
theorem dropK_some {k : List Value → Option β} {x : β} : ∀ {l : List Value} {i : Nat}, dropK l i k = some x → k (l.drop i) = some x ∧ i ≤ l.length
 | l, 0, h => ⟨by simpa [dropK] using h, Nat.zero_le _⟩
 | [], i + 1, h => by cases h
 | _ :: r, i + 1, h => by
  have := dropK_some (l := r) (i := i) h
  exact ⟨by simpa using this.1, by simpa using this.2⟩
theorem takeK_some {x : β} : ∀ {l : List Value} {i : Nat} {k : List Value → Option β}, takeK l i k = some x → k (l.take i) = some x ∧ i ≤ l.length
 | l, 0, _, h => ⟨by simpa [takeK] using h, Nat.zero_le _⟩
 | [], i + 1, _, h => by cases h
 | v :: r, i + 1, k, h => by
  have := takeK_some (l := r) (i := i) (k := fun q => k (v :: q)) h
  exact ⟨by simpa using this.1, by simpa using this.2⟩
def sv (tb : TT) (L : Hp) (op : Op) (f : Fr) (h : List Nat) (S : Prop) (k : Value → List Nat → Prop → Option β) : Option β :=
 match op with
 | .move x => match ev f x with
  | some v => k v h S
  | none => none
 | .assign x => match ev f x with
  | some v => k v h S
  | none => none
 | .nilCheck x => match ev f x with
  | some (.pointer (some a)) => k (.pointer (some a)) h S
  | _ => none
 | .unOp u _ x => match u, ev f x with
  | .not, some (.bool b) => k (.bool (!b)) h S
  | .neg, some (.int .i64 a) => k (.int .i64 (-a)) h (In64 (-a) ∧ S)
  | _, _ => none
 | .binOp b t x y _ => match ev f x, ev f y with
  | some (.int ka a), some (.int kb c) => bif ikB ka kb then (match b with
   | .lss => k (.bool (decide (a < c))) h S
   | .leq => k (.bool (decide (a ≤ c))) h S
   | .gtr => k (.bool (decide (c < a))) h S
   | .geq => k (.bool (decide (c ≤ a))) h S
   | .eql => k (.bool (decide (a = c))) h S
   | .neq => k (.bool (!decide (a = c))) h S
   | .add => bif ikB ka .i64 then k (.int .i64 (a + c)) h (In64 (a + c) ∧ S) else none
   | .sub => bif ikB ka .i64 then k (.int .i64 (a - c)) h (In64 (a - c) ∧ S) else none
   | .mul => bif ikB ka .i64 then k (.int .i64 (a * c)) h (In64 (a * c) ∧ S) else none
   | _ => none) else none
  | some (.string a), some (.string c) => (match b with
   | .eql => k (.bool (decide (a = c))) h S
   | .neq => k (.bool (!decide (a = c))) h S
   | _ => none)
  | some (.bool a), some (.bool c) => (match tb.get t with
   | some ⟨.bool, _, _⟩ => (match b with
    | .eql => k (.bool (a == c)) h S
    | .neq => k (.bool (!(a == c))) h S
    | _ => none)
   | _ => none)
  | _, _ => none
 | .convert s d x => match tb.get s, tb.get d with
  | some ⟨.int ks, _, _⟩, some ⟨.int kd, _, _⟩ => (match ev f x with
   | some (.int kv a) => bif ikB kv ks then (bif ikB kd .u8 then k (.int .u8 ((ub a).toNat)) h S else bif ikB kd .i64 then k (.int .i64 a) h (In64 a ∧ S) else none) else none
   | _ => none)
  | _, _ => none
 | .extract x i => match ev f x with
  | some (.tuple vs) => (match nthV vs.toList i with
   | some v => k v h S
   | none => none)
  | _ => none
 | .fieldAddr s x i => match tb.get s, ev f x with
  | some ⟨.struct offs, _, _⟩, some (.pointer (some ⟨b, off, none⟩)) => (match nthN offs i with
   | some o => k (.pointer (some ⟨b, off + o, none⟩)) h S
   | none => none)
  | _, _ => none
 | .load t x => match h with
  | i :: h' => (match tb.get t, ev f x, nthL L i with
   | some ⟨_, sz, ag⟩, some (.pointer (some ⟨b, off, none⟩)), some (b', .cells cs _ _) => bif ag then dropK cs.toList off fun l => takeK l sz fun q => k (.agg q.toArray) h' (b' = b ∧ S)
    else (match nthV cs.toList off with
     | some v => k v h' (b' = b ∧ S)
     | none => none)
   | _, _, _ => none)
  | [] => none
 | .call c => match c.callee, c.args.toList, c.argTypes.toList with
  | .builtin .len, [x], [t] => (match tb.get t, ev f x with
   | some ⟨.slice _, _, _⟩, some (.slice _ l _) => k (.int .i64 l) h S
   | some ⟨.str, _, _⟩, some (.string s) => k (.int .i64 s.size) h S
   | _, _ => none)
  | .builtin .cap, [x], [t] => (match tb.get t, ev f x with
   | some ⟨.slice _, _, _⟩, some (.slice _ _ c) => k (.int .i64 c) h S
   | _, _ => none)
  | .builtin .min, [x, y], [t, t'] => (match ev f x, ev f y with
   | some (.int ka a), some (.int kb c) => bif ikB ka kb then k (.int ka (Min.min a c)) h S else none
   | _, _ => none)
  | .builtin .max, [x, y], [t, t'] => (match ev f x, ev f y with
   | some (.int ka a), some (.int kb c) => bif ikB ka kb then k (.int ka (Max.max a c)) h S else none
   | _, _ => none)
  | _, _, _ => none
 | _ => none
end
section
variable {P : Program} {tb : TT} {w0 w : World} {T : List Nat} {L : Hp} {f : Fr}
theorem sv_ok {β : Type} {op : Op} {h : List Nat} {S : Prop} {k : Value → List Nat → Prop → Option β} {x : β} (htb : tb.Ok P) (hsv : sv tb L op f h S k = some x) :
    ∃ v h' S', k v h' S' = some x ∧ (S' → S ∧ ∀ w, (∀ p, p ∈ L → w.heap[p.1]? = some p.2) → ∀ o : Oper, o.op = op → Run P o f w (.value v) w) := by
  unfold sv at hsv
  split at hsv
  -- move
  · split at hsv
    · rename_i v hv
      exact ⟨_, _, _, hsv, fun hS => ⟨hS, fun w hst o ho => Run.move ho hv⟩⟩
    · cases hsv
  · split at hsv
    · rename_i v hv
      exact ⟨_, _, _, hsv, fun hS => ⟨hS, fun w hst o ho => Run.assign ho hv⟩⟩
    · cases hsv
  · split at hsv
    · rename_i a hv
      exact ⟨_, _, _, hsv, fun hS => ⟨hS, fun w hst o ho => Run.nilCheck ho hv⟩⟩
    · cases hsv
  -- unOp
  · split at hsv
    · rename_i b hv
      exact ⟨_, _, _, hsv, fun hS => ⟨hS, fun w hst o ho => Run.not ho hv⟩⟩
    · rename_i a hv
      exact ⟨_, _, _, hsv, fun hS => ⟨hS.2, fun w hst o ho => Run.neg ho hv (neg_in hS.1)⟩⟩
    · cases hsv
  -- binOp
  · split at hsv
    · rename_i ka a kc c hx hy
      cases hk : ikB ka kc with
      | false => rw [hk] at hsv; cases hsv
      | true =>
        have := ikB_eq hk
        subst this
        rw [hk] at hsv
        dsimp only [cond_true] at hsv
        split at hsv
        · exact ⟨_, _, _, hsv, fun hS => ⟨hS, fun w hst o ho => Run.lss ho hx hy⟩⟩
        · exact ⟨_, _, _, hsv, fun hS => ⟨hS, fun w hst o ho => Run.leq ho hx hy⟩⟩
        · exact ⟨_, _, _, hsv, fun hS => ⟨hS, fun w hst o ho => Run.gtr ho hx hy⟩⟩
        · exact ⟨_, _, _, hsv, fun hS => ⟨hS, fun w hst o ho => Run.geq ho hx hy⟩⟩
        · exact ⟨_, _, _, hsv, fun hS => ⟨hS, fun w hst o ho => Run.eql ho hx hy⟩⟩
        · exact ⟨_, _, _, hsv, fun hS => ⟨hS, fun w hst o ho => Run.neq ho hx hy⟩⟩
        all_goals first
          | (cases hsv; done)
          | (cases h64 : ikB ka .i64 with
             | false => rw [h64] at hsv; cases hsv
             | true =>
               rw [h64] at hsv
               have := ikB_eq h64
               subst this
               first
                 | exact ⟨_, _, _, hsv, fun hS => ⟨hS.2, fun w hst o ho => Run.add ho hx hy hS.1⟩⟩
                 | exact ⟨_, _, _, hsv, fun hS => ⟨hS.2, fun w hst o ho => Run.sub ho hx hy hS.1⟩⟩
                 | exact ⟨_, _, _, hsv, fun hS => ⟨hS.2, fun w hst o ho => Run.mul ho hx hy hS.1⟩⟩)
    · rename_i a c hx hy
      split at hsv
      · exact ⟨_, _, _, hsv, fun hS => ⟨hS, fun w hst o ho => Run.eqlS ho hx hy⟩⟩
      · exact ⟨_, _, _, hsv, fun hS => ⟨hS, fun w hst o ho => Run.neqS ho hx hy⟩⟩
      · cases hsv
    · rename_i a c hx hy
      split at hsv
      · rename_i ht
        have hu := (TT.get_ok htb ht).1
        split at hsv
        · exact ⟨_, _, _, hsv, fun hS => ⟨hS, fun w hst o ho => Run.eqlB hu ho hx hy⟩⟩
        · exact ⟨_, _, _, hsv, fun hS => ⟨hS, fun w hst o ho => Run.neqB hu ho hx hy⟩⟩
        · cases hsv
      · cases hsv
    · cases hsv
  -- convert
  · split at hsv
    · rename_i ks _ _ kd _ _ hs hd
      have hus := (TT.get_ok htb hs).1
      have hud := (TT.get_ok htb hd).1
      split at hsv
      · rename_i kv a hx
        cases hk : ikB kv ks with
        | false => rw [hk] at hsv; cases hsv
        | true =>
          have := ikB_eq hk
          subst this
          rw [hk] at hsv
          dsimp only [cond_true] at hsv
          cases h8 : ikB kd .u8 with
          | true =>
            rw [h8] at hsv
            have := ikB_eq h8
            subst this
            exact ⟨_, _, _, hsv, fun hS => ⟨hS, fun w hst o ho => Run.convU8 hus hud ho hx⟩⟩
          | false =>
            rw [h8] at hsv
            dsimp only [cond_false] at hsv
            cases h64 : ikB kd .i64 with
            | false => rw [h64] at hsv; cases hsv
            | true =>
              rw [h64] at hsv
              have := ikB_eq h64
              subst this
              refine ⟨_, _, _, hsv, fun hS => ⟨hS.2, fun w hst o ho => ?_⟩⟩
              have := Run.conv (P := P) (w := w) hus hud ho hx
              rwa [wrap_in hS.1] at this
      · cases hsv
    · cases hsv
  -- extract
  · split at hsv
    · rename_i vs hx
      split at hsv
      · rename_i v hv
        rw [nthV_eq] at hv
        exact ⟨_, _, _, hsv, fun hS => ⟨hS, fun w hst o ho => Run.extract ho hx hv⟩⟩
      · cases hsv
    · cases hsv
  -- fieldAddr
  · split at hsv
    · rename_i offs _ _ b off ht hx
      obtain ⟨fs, hu, hoffs, hall⟩ := (TT.get_ok htb ht).1
      split at hsv
      · rename_i i _ o hi
        rw [nthN_eq, ← hoffs, List.getElem?_map] at hi
        obtain ⟨fd, hfd, rfl⟩ := Option.map_eq_some_iff.1 hi
        obtain ⟨sz, hz, hz0⟩ := allSz_get hall hfd
        exact ⟨_, _, _, hsv, fun hS => ⟨hS, fun w hst o ho => Run.field hu ho hx hfd hz hz0⟩⟩
      · cases hsv
    · cases hsv
  -- load
  · split at hsv
    · split at hsv
      · rename_i i h' _ sz ag b off b' cs e fz ht hx hi
        obtain ⟨-, hz, hag⟩ := TT.get_ok htb ht
        cases ag with
        | true =>
          dsimp only [cond_true] at hsv
          obtain ⟨h1, hlo⟩ := dropK_some hsv
          obtain ⟨h2, hln⟩ := takeK_some h1
          refine ⟨_, _, _, h2, fun hS => ⟨hS.2, fun w hst o ho => ?_⟩⟩
          obtain ⟨rfl, -⟩ := hS
          have hh := hst _ (nthL_mem hi)
          refine Run.loadA hag hz ho hx (cells_of_heap (cl := cs.toList) (by simpa using hh) rfl ?_)
          rw [List.length_take]; exact Nat.min_eq_left hln
        | false =>
          dsimp only [cond_false] at hsv
          split at hsv
          · rename_i v hv
            rw [nthV_eq] at hv
            refine ⟨_, _, _, hsv, fun hS => ⟨hS.2, fun w hst o ho => ?_⟩⟩
            obtain ⟨rfl, -⟩ := hS
            have hh := hst _ (nthL_mem hi)
            exact Run.load hag ho hx (cell_of_heap (cl := cs.toList) (by simpa using hh) hv)
          · cases hsv
      · cases hsv
    · cases hsv
  -- call
  · rename_i c
    split at hsv
    · rename_i x t hc ha ht
      have e : ∀ o : Oper, o.op = .call c → o.op = .call { callee := .builtin .len, args := #[x], argTypes := #[t] } := fun o ho => by
        rw [ho]
        obtain ⟨c1, c2, c3⟩ := c
        simp only at hc ha ht
        subst hc
        congr 2
        · exact Array.toList_inj.1 ha
        · exact Array.toList_inj.1 ht
      split at hsv
      · rename_i _ _ _ _ l _ hg hx
        exact ⟨_, _, _, hsv, fun hS => ⟨hS, fun w hst o ho => Run.lenSl (TT.get_ok htb hg).1 (e o ho) hx⟩⟩
      · rename_i hg hx
        exact ⟨_, _, _, hsv, fun hS => ⟨hS, fun w hst o ho => Run.lenStr (TT.get_ok htb hg).1 (e o ho) hx⟩⟩
      · cases hsv
    · rename_i x t hc ha ht
      have e : ∀ o : Oper, o.op = .call c → o.op = .call { callee := .builtin .cap, args := #[x], argTypes := #[t] } := fun o ho => by
        rw [ho]
        obtain ⟨c1, c2, c3⟩ := c
        simp only at hc ha ht
        subst hc
        congr 2
        · exact Array.toList_inj.1 ha
        · exact Array.toList_inj.1 ht
      split at hsv
      · rename_i hg hx
        exact ⟨_, _, _, hsv, fun hS => ⟨hS, fun w hst o ho => Run.capSl (TT.get_ok htb hg).1 (e o ho) hx⟩⟩
      · cases hsv
    · rename_i x y t t' hc ha ht
      have e : ∀ o : Oper, o.op = .call c → o.op = .call { callee := .builtin .min, args := #[x, y], argTypes := #[t, t'] } := fun o ho => by
        rw [ho]
        obtain ⟨c1, c2, c3⟩ := c
        simp only at hc ha ht
        subst hc
        congr 2
        · exact Array.toList_inj.1 ha
        · exact Array.toList_inj.1 ht
      split at hsv
      · rename_i ka a kc c hx hy
        cases hk : ikB ka kc with
        | false => rw [hk] at hsv; cases hsv
        | true =>
          have := ikB_eq hk
          subst this
          rw [hk] at hsv
          exact ⟨_, _, _, hsv, fun hS => ⟨hS, fun w hst o ho => Run.min (e o ho) hx hy⟩⟩
      · cases hsv
    · rename_i x y t t' hc ha ht
      have e : ∀ o : Oper, o.op = .call c → o.op = .call { callee := .builtin .max, args := #[x, y], argTypes := #[t, t'] } := fun o ho => by
        rw [ho]
        obtain ⟨c1, c2, c3⟩ := c
        simp only at hc ha ht
        subst hc
        congr 2
        · exact Array.toList_inj.1 ha
        · exact Array.toList_inj.1 ht
      split at hsv
      · rename_i ka a kc c hx hy
        cases hk : ikB ka kc with
        | false => rw [hk] at hsv; cases hsv
        | true =>
          have := ikB_eq hk
          subst this
          rw [hk] at hsv
          exact ⟨_, _, _, hsv, fun hS => ⟨hS, fun w hst o ho => Run.max (e o ho) hx hy⟩⟩
      · cases hsv
    · cases hsv
  · cases hsv
end
def SubS (F f : Fr) : Prop := ∀ i v, lk F i = some v → lk f i = some v
theorem SubS.refl (f : Fr) : SubS f f := fun _ _ h => h
theorem SubS.trans {F G f : Fr} (h : SubS F G) (k : SubS G f) : SubS F f := fun i v hi => k i v (h i v hi)
theorem SubS.cons {F f : Fr} {d : Nat} {v : Value} (h : SubS F f) (hd : lk F d = none) : SubS F ((d, v) :: f) := fun i u hi => by
 unfold lk
 cases hb : Nat.beq d i with
 | true =>
  rw [Nat.eq_of_beq_eq_true hb] at hd
  rw [hd] at hi; cases hi
 | false => exact h i u hi
theorem SubS.put {F f : Fr} {d : Nat} {v : Value} (h : SubS F f) (hv : lk f d = some v) : SubS ((d, v) :: F) f := fun i u hi => by
 unfold lk at hi
 cases hb : Nat.beq d i with
 | true =>
  rw [hb] at hi
  rw [← Nat.eq_of_beq_eq_true hb, hv]
  exact hi
 | false =>
  rw [hb] at hi
  exact h i u hi
theorem SubS.head {F f : Fr} {d : Nat} {v : Value} (h : SubS F f) : SubS ((d, v) :: F) ((d, v) :: f) := fun i u hi => by
 unfold lk at hi ⊢
 cases hb : Nat.beq d i with
 | true => rw [hb] at hi; exact hi
 | false => rw [hb] at hi; exact h i u hi
def subB (F : Fr) : Nat → Fr → Option Fr
 | 0, f => some f
 | _ + 1, [] => none
 | k + 1, (d, _) :: f => match lk F d with
  | none => subB F k f
  | some _ => none
theorem subB_ok {F : Fr} : ∀ {k : Nat} {f : Fr}, subB F k f = some F → SubS F f
 | 0, f, h => by simp [subB] at h; subst h; exact SubS.refl _
 | k + 1, [], h => by cases h
 | k + 1, (d, v) :: f, h => by
  unfold subB at h
  split at h
  ·rename_i hd; exact (subB_ok h).cons hd
  ·cases h
theorem Good.subS {a : Act} {n : Nat} {F f : Fr} (h : Good a n f) (hs : SubS F f) : Good a n F := ⟨h.size, h.defers, fun i v hv => h.at_ i v (hs i v hv)⟩
theorem WC.subS {P : Program} {n : Nat} {Q : Kont} {c : Code} {F f : Fr} {w : World} (hs : SubS F f) (h : WC P n c Q F w) : WC P n c Q f w := fun a ha => h a (ha.subS hs)
section
variable {P : Program} {w : World} {n : Nat} {ol : List Oper} {K : Fr → World → Prop} {KQ : Fr → Prop} {C : World → Prop}
theorem WL.subS {l : List Oper} {F f : Fr} (hs : SubS F f) (h : WL P n ol l K F w) : WL P n ol l K f w := fun Q a ha hk => h Q a (ha.subS hs) hk
theorem WQ.subS {l : List Oper} {F f : Fr} (hs : SubS F f) (h : WQ P n ol l C KQ F) : WQ P n ol l C KQ f := fun a ha => h a (ha.subS hs)
end
def actB : List (Nat × Bool) → Nat → Bool → Bool
 | [], _, _ => false
 | (j, b) :: r, i, c => (Nat.beq j i && (b == c)) || actB r i c
def Acts (ol : List Oper) (act : List (Nat × Bool)) (f : Fr) : Prop := ∀ j b, actB act j b = true → ∃ oj dj, nthO ol j = some oj ∧ oj.dst = some dj ∧ lk f dj = some (.bool b)
theorem Acts.nil {ol : List Oper} {f : Fr} : Acts ol [] f := fun _ _ h => by cases h
def actH (ol : List Oper) (j : Nat) (f : Fr) : Option Bool :=
 match nthO ol j with
 | some oj => (match oj.dst with
  | some dj => (match lk f dj with
   | some (.bool g) => some g
   | _ => none)
  | none => none)
 | none => none
theorem actH_ok {ol : List Oper} {j : Nat} {f : Fr} {g : Bool} (h : actH ol j f = some g) : ∃ oj dj, nthO ol j = some oj ∧ oj.dst = some dj ∧ lk f dj = some (.bool g) := by
 unfold actH at h
 split at h
 ·rename_i oj hj
  split at h
  ·rename_i dj hd
   split at h
   ·rename_i g' hl
    cases h
    exact ⟨_, _, hj, hd, hl⟩
   ·cases h
  ·cases h
 ·cases h
theorem Acts.cons {ol : List Oper} {act : List (Nat × Bool)} {f : Fr} {j : Nat} {g b : Bool} (h : Acts ol act f) (hj : actH ol j f = some g) (hg : g = b) : Acts ol ((j, b) :: act) f := fun i c hi => by
 simp only [actB, Bool.or_eq_true, Bool.and_eq_true, beq_iff_eq] at hi
 rcases hi with ⟨h1, rfl⟩ | hi
 ·rw [← Nat.eq_of_beq_eq_true h1, ← hg]; exact actH_ok hj
 ·exact h i c hi
theorem Acts.put {ol : List Oper} {act : List (Nat × Bool)} {f : Fr} {d : Nat} {v : Value} (h : Acts ol act f) (hd : lk f d = none) : Acts ol act ((d, v) :: f) := fun i c hi => by
 obtain ⟨oj, dj, h1, h2, h3⟩ := h i c hi
 exact ⟨oj, dj, h1, h2, (SubS.refl f).cons hd dj _ h3⟩
def wantA (ol : List Oper) (act : List (Nat × Bool)) (o : Oper) (f : Fr) : Bool :=
 match o.guard with
 | none => true
 | some (j, b) => actB act j b
theorem wantA_ok {ol : List Oper} {act : List (Nat × Bool)} {o : Oper} {f : Fr} (ha : Acts ol act f) (h : wantA ol act o f = true) : want ol o f = some true := by
 unfold wantA at h
 unfold want
 cases hg : o.guard with
 | none => rfl
 | some p =>
  obtain ⟨j, b⟩ := p
  rw [hg] at h
  obtain ⟨oj, dj, h1, h2, h3⟩ := ha j b h
  simp [h1, h2, h3]
def frB (act : List (Nat × Bool)) (f : Fr) (d : Nat) : Bool :=
 match act with
 | [] => true
 | _ :: _ => match lk f d with
  | none => true
  | some _ => false
theorem frB_ok {ol : List Oper} {act : List (Nat × Bool)} {f : Fr} {d : Nat} {v : Value} (ha : Acts ol act f) (h : frB act f d = true) : Acts ol act ((d, v) :: f) := by
 cases act with
 | nil => exact Acts.nil
 | cons p r =>
  unfold frB at h
  simp only at h
  split at h
  ·rename_i hd; exact ha.put hd
  ·cases h
def runs (tb : TT) (n : Nat) (ol : List Oper) (L : Hp) (act : List (Nat × Bool)) : Nat → List Oper → Fr → List Nat → Prop → Option (List Oper × Fr × Prop)
 | 0, l, f, _, S => some (l, f, S)
 | _ + 1, [], _, _, _ => none
 | m + 1, o :: r, f, h, S => match o.dst with
  | some d => bif wantA ol act o f && Nat.blt d n && frB act f d then sv tb L o.op f h S fun v h' S' => runs tb n ol L act m r ((d, v) :: f) h' S' else none
  | none => none
section
variable {P : Program} {tb : TT} {w0 w : World} {T : List Nat} {L : Hp} {n : Nat} {ol : List Oper} {act : List (Nat × Bool)} {K : Fr → World → Prop} {KQ : Fr → Prop} {C : World → Prop}
theorem runs_ok (htb : tb.Ok P) : ∀ {m : Nat} {l l' : List Oper} {f f' : Fr} {h : List Nat} {S S' : Prop}, Acts ol act f → runs tb n ol L act m l f h S = some (l', f', S') → S' → S ∧ Acts ol act f' ∧ (∀ w, St w0 T L w → WL P n ol l' K f' w → WL P n ol l K f w) ∧ (WQ P n ol l' (fun w' => St w0 T L w') KQ f' → WQ P n ol l (fun w' => St w0 T L w') KQ f)
 | 0, l, l', f, f', h, S, S', ha, hr, hS => by
  simp only [runs, Option.some.injEq, Prod.mk.injEq] at hr
  obtain ⟨rfl, rfl, rfl⟩ := hr
  exact ⟨hS, ha, fun _ _ => id, id⟩
 | m + 1, [], l', f, f', h, S, S', ha, hr, hS => by cases hr
 | m + 1, o :: r, l', f, f', h, S, S', ha, hr, hS => by
  unfold runs at hr
  split at hr
  ·rename_i d hd
   cases hc : (wantA ol act o f && Nat.blt d n && frB act f d) with
   | false => rw [hc] at hr; cases hr
   | true =>
    rw [hc] at hr
    dsimp only [cond_true] at hr
    simp only [Bool.and_eq_true] at hc
    obtain ⟨v, h', S1, hk, hv⟩ := sv_ok htb hr
    obtain ⟨h1, h2, h3, h4⟩ := runs_ok htb (frB_ok ha hc.2) hk hS
    obtain ⟨h5, h6⟩ := hv h1
    have hw := wantA_ok ha hc.1.1
    exact ⟨h5, h2, fun w hst hl => WL.val hw hd hc.1.2 (h6 w (fun p hp => (hst.own p hp).1) o rfl) (h3 w hst hl), fun hl => WQ.val hw hd hc.1.2 (fun w hst => h6 w (fun p hp => (hst.own p hp).1) o rfl) (h4 hl)⟩
  ·cases hr
theorem WL.run (htb : tb.Ok P) (m : Nat) (hst : St w0 T L w) (h : List Nat) {l l' : List Oper} {f f' : Fr} {S : Prop} (hr : runs tb n ol L [] m l f h True = some (l', f', S)) (hS : S) (k : WL P n ol l' K f' w) : WL P n ol l K f w :=
 (runs_ok (KQ := fun _ => True) htb Acts.nil hr hS).2.2.1 w hst k
theorem WL.runA {f : Fr} (htb : tb.Ok P) (m : Nat) (ha : Acts ol act f) (hst : St w0 T L w) (h : List Nat) {l l' : List Oper} {f' : Fr} {S : Prop} (hr : runs tb n ol L act m l f h True = some (l', f', S)) (hS : S) (k : WL P n ol l' K f' w) : WL P n ol l K f w :=
 (runs_ok (KQ := fun _ => True) htb ha hr hS).2.2.1 w hst k
theorem WQ.run (htb : tb.Ok P) (m : Nat) (h : List Nat) {l l' : List Oper} {f f' : Fr} {S : Prop} (hr : runs tb n ol L [] m l f h True = some (l', f', S)) (hS : S) (k : WQ P n ol l' (fun w' => St w0 T L w') KQ f') : WQ P n ol l (fun w' => St w0 T L w') KQ f :=
 (runs_ok (K := fun _ _ => True) htb Acts.nil hr hS).2.2.2 k
theorem WQ.runA {f : Fr} (htb : tb.Ok P) (m : Nat) (ha : Acts ol act f) (h : List Nat) {l l' : List Oper} {f' : Fr} {S : Prop} (hr : runs tb n ol L act m l f h True = some (l', f', S)) (hS : S) (k : WQ P n ol l' (fun w' => St w0 T L w') KQ f') : WQ P n ol l (fun w' => St w0 T L w') KQ f :=
 (runs_ok (K := fun _ _ => True) htb ha hr hS).2.2.2 k
def skG (n : Nat) (ol : List Oper) (j : Nat) (bb : Bool) : Nat → List Oper → Fr → Option (List Oper × Fr)
 | 0, l, f => some (l, f)
 | _ + 1, [], _ => none
 | m + 1, o :: r, f => match o.dst with
  | some d => (match lk f d with
   | none => bif Nat.blt d n then (match o.guard with
    | some (i, b) => bif Nat.beq i j && (b == bb) then skG n ol j bb m r ((d, undef) :: f) else (match want ol o f with
     | some false => skG n ol j bb m r ((d, undef) :: f)
     | _ => none)
    | none => none) else none
   | some _ => none)
  | none => none
theorem skG_ok {j : Nat} {bb : Bool} : ∀ {m : Nat} {l l' : List Oper} {f f' : Fr}, actH ol j f = some (!bb) → skG n ol j bb m l f = some (l', f') → SubS f f' ∧ (∀ w, WL P n ol l' K f' w → WL P n ol l K f w) ∧ (WQ P n ol l' C KQ f' → WQ P n ol l C KQ f)
 | 0, l, l', f, f', ha, h => by
  simp only [skG, Option.some.injEq, Prod.mk.injEq] at h
  obtain ⟨rfl, rfl⟩ := h
  exact ⟨SubS.refl _, fun _ => id, id⟩
 | m + 1, [], l', f, f', ha, h => by cases h
 | m + 1, o :: r, l', f, f', ha, h => by
  unfold skG at h
  split at h
  ·rename_i d hd
   split at h
   ·rename_i hf
    cases hn : Nat.blt d n with
    | false => rw [hn] at h; cases h
    | true =>
     rw [hn] at h
     dsimp only [cond_true] at h
     have ha' : actH ol j ((d, undef) :: f) = some (!bb) := by
      obtain ⟨oj, dj, h1, h2, h3⟩ := actH_ok ha
      have := (SubS.refl f).cons (v := undef) hf dj _ h3
      unfold actH
      rw [h1]; simp only [h2, this]
     have fin : want ol o f = some false → skG n ol j bb m r ((d, undef) :: f) = some (l', f') → SubS f f' ∧ (∀ w, WL P n ol l' K f' w → WL P n ol (o :: r) K f w) ∧ (WQ P n ol l' C KQ f' → WQ P n ol (o :: r) C KQ f) := fun hw hk => by
      obtain ⟨h1, h2, h3⟩ := skG_ok ha' hk
      exact ⟨(SubS.refl f).cons hf |>.trans h1, fun w hl => WL.skip hw hd hn (h2 w hl), fun hl => WQ.skip hw hd hn (h3 hl)⟩
     split at h
     ·rename_i i b hgd
      cases hc : (Nat.beq i j && (b == bb)) with
      | true =>
       rw [hc] at h
       simp only [Bool.and_eq_true, beq_iff_eq] at hc
       obtain ⟨h1, rfl⟩ := hc
       obtain ⟨oj, dj, g1, g2, g3⟩ := actH_ok ha
       rw [← Nat.eq_of_beq_eq_true h1] at g1
       refine fin ?_ h
       unfold want
       simp only [hgd, g1, g2, g3]
       cases b <;> rfl
      | false =>
       rw [hc] at h
       dsimp only [cond_false] at h
       split at h
       ·rename_i hw; exact fin hw h
       ·cases h
     ·cases h
   ·cases h
  ·cases h
def actD (ol : List Oper) (j : Nat) : Option Nat :=
 match nthO ol j with
 | some oj => oj.dst
 | none => none
def grpH (n : Nat) (ol : List Oper) (act : List (Nat × Bool)) (e : Nat) (l : List Oper) (f : Fr) : Option (Bool × Bool × Nat × Nat × List Oper) :=
 match l with
 | o1 :: _ => (match o1.guard with
  | some (j, bb) => (match actH ol j f, actD ol j, skG n ol j bb e l f with
   | some g, some dj, some (o :: rest, _) => (match o.dst, o.op with
    | some d, .pick (.tmp t) x y => bif wantA ol act o f && Nat.blt d n && Nat.beq t dj then (match bb, x, y with
     | true, _, .const (.bool false) => some (true, g, j, d, rest)
     | false, .const (.bool true), _ => some (false, g, j, d, rest)
     | _, _, _ => none) else none
    | _, _ => none)
   | _, _, _ => none)
  | none => none)
 | [] => none
theorem Acts.subS {ol : List Oper} {act : List (Nat × Bool)} {F f : Fr} (h : Acts ol act F) (hs : SubS F f) : Acts ol act f := fun i c hi => by
 obtain ⟨oj, dj, h1, h2, h3⟩ := h i c hi
 exact ⟨oj, dj, h1, h2, hs _ _ h3⟩
theorem wantA_ok' {ol : List Oper} {act : List (Nat × Bool)} {o : Oper} {F f : Fr} (ha : Acts ol act f) (h : wantA ol act o F = true) : want ol o f = some true := wantA_ok (f := f) ha (by unfold wantA at h ⊢; exact h)
theorem want_none {o : Oper} {f : Fr} (h : o.guard = none) : want ol o f = some true := by unfold want; rw [h]
theorem grpH_ok {e : Nat} {l rest : List Oper} {f : Fr} {bb g : Bool} {j d : Nat} (ha : Acts ol act f) (h : grpH n ol act e l f = some (bb, g, j, d, rest)) :
  actH ol j f = some g ∧ (g = !bb → (∀ w, WL P n ol rest K ((d, .bool (!bb)) :: f) w → WL P n ol l K f w) ∧ (WQ P n ol rest C KQ ((d, .bool (!bb)) :: f) → WQ P n ol l C KQ f)) := by
 unfold grpH at h
 split at h
 ·rename_i o1 r
  split at h
  ·rename_i j' b' hgd
   split at h
   ·rename_i g' dj o rest' f' hact hdj hsk
    split at h
    ·rename_i d' t x y hdst hop
     cases hc : (wantA ol act o f && Nat.blt d' n && Nat.beq t dj) with
     | false => rw [hc] at h; cases h
     | true =>
      rw [hc] at h
      dsimp only [cond_true] at h
      simp only [Bool.and_eq_true] at hc
      have main : bb = b' → g = g' → j = j' → d = d' → rest = rest' → (∀ F : Fr, lk F t = some (.bool g') → g' = !b' → ∀ w, Run P o F w (.value (.bool (!b'))) w) →
        actH ol j f = some g ∧ (g = !bb → (∀ w, WL P n ol rest K ((d, .bool (!bb)) :: f) w → WL P n ol (o1 :: r) K f w) ∧ (WQ P n ol rest C KQ ((d, .bool (!bb)) :: f) → WQ P n ol (o1 :: r) C KQ f)) := by
       rintro rfl rfl rfl rfl rfl hrun
       refine ⟨hact, fun hg => ?_⟩
       obtain ⟨h1, h2, h3⟩ := skG_ok (P := P) (K := K) (KQ := KQ) (C := C) (by rw [hact, hg]) hsk
       obtain ⟨oj, dj', e1, e2, e3⟩ := actH_ok hact
       have hdd : dj' = dj := by
        unfold actD at hdj
        rw [e1] at hdj
        simp only at hdj
        rw [e2] at hdj
        exact Option.some.inj hdj
       have ht : lk f' t = some (.bool g) := by
        rw [Nat.eq_of_beq_eq_true hc.2, ← hdd]
        exact h1 _ _ e3
       exact ⟨fun w hl => h2 w (WL.val (wantA_ok' (ha.subS h1) hc.1.1) hdst hc.1.2 (hrun f' ht hg w) (WL.subS h1.head hl)),
        fun hl => h3 (WQ.val (wantA_ok' (ha.subS h1) hc.1.1) hdst hc.1.2 (fun w _ => hrun f' ht hg w) (WQ.subS h1.head hl))⟩
      split at h
      ·simp only [Option.some.injEq, Prod.mk.injEq] at h
       obtain ⟨rfl, rfl, rfl, rfl, rfl⟩ := h
       exact main rfl rfl rfl rfl rfl fun F hF hg w => Run.pickF hop hF hg rfl
      ·simp only [Option.some.injEq, Prod.mk.injEq] at h
       obtain ⟨rfl, rfl, rfl, rfl, rfl⟩ := h
       exact main rfl rfl rfl rfl rfl fun F hF hg w => Run.pickT hop hF hg rfl
      ·cases h
    ·cases h
   ·cases h
  ·cases h
 ·cases h
def pickH (n : Nat) (ol : List Oper) (act : List (Nat × Bool)) (o : Oper) (bb : Bool) (F : Fr) : Option (Nat × Bool × Bool) :=
 match o.dst, o.op with
 | some d, .pick c x y => bif wantA ol act o F && Nat.blt d n then (match ev F c, (bif bb then ev F x else ev F y) with
  | some (.bool g), some (.bool b) => some (d, g, b)
  | _, _ => none) else none
 | _, _ => none
theorem pickH_ok {o : Oper} {bb : Bool} {F : Fr} {d : Nat} {g b : Bool} (ha : Acts ol act F) (h : pickH n ol act o bb F = some (d, g, b)) : want ol o F = some true ∧ o.dst = some d ∧ Nat.blt d n = true ∧ (g = bb → ∀ w, Run P o F w (.value (.bool b)) w) := by
 unfold pickH at h
 split at h
 ·rename_i d' c x y h2 h3
  cases hn : (wantA ol act o F && Nat.blt d' n) with
  | false => rw [hn] at h; cases h
  | true =>
   rw [hn] at h
   dsimp only [cond_true] at h
   simp only [Bool.and_eq_true] at hn
   split at h
   ·rename_i g' b' hc hb
    simp only [Option.some.injEq, Prod.mk.injEq] at h
    obtain ⟨rfl, rfl, rfl⟩ := h
    refine ⟨wantA_ok ha hn.1, h2, hn.2, fun hg w => ?_⟩
    cases bb with
    | true => exact Run.pickT h3 hc hg hb
    | false => exact Run.pickF h3 hc hg hb
   ·cases h
 ·cases h
theorem WL.gA {l rest : List Oper} {f : Fr} {g b : Bool} {j d : Nat} (e : Nat) (ha : Acts ol act f) (hst : St w0 T L w) (hh : grpH n ol act e l f = some (true, g, j, d, rest)) (hT : g = true → (∀ w', St w0 T L w' → WL P n ol rest K ((d, .bool (g && b)) :: f) w') → WL P n ol l K f w)
  (J : (∀ w', St w0 T L w' → WL P n ol rest K ((d, .bool (g && b)) :: f) w')) : WL P n ol l K f w := by
 obtain ⟨h1, h2⟩ := grpH_ok (P := P) (K := K) (KQ := fun _ => True) (C := fun _ => True) ha hh
 cases g with
 | true => exact hT rfl J
 | false => exact (h2 rfl).1 w (J w hst)
theorem WL.eA {o : Oper} {rest : List Oper} {F f : Fr} {g b : Bool} {d : Nat} (k : Nat) (ha : Acts ol act F) (J : (∀ w', St w0 T L w' → WL P n ol rest K ((d, .bool (g && b)) :: f) w')) (hst : St w0 T L w) (hg : g = true) (hp : pickH n ol act o true F = some (d, g, b)) (hs : subB f k F = some f) : WL P n ol (o :: rest) K F w := by
 obtain ⟨h1, h2, h3, h4⟩ := pickH_ok (P := P) ha hp
 refine WL.val h1 h2 h3 (h4 hg w) (WL.subS (subB_ok hs).head ?_)
 have := J w hst
 rwa [hg, Bool.true_and] at this
theorem WL.pA {l rest : List Oper} {o : Oper} {f F : Fr} {g b : Bool} {j d : Nat} {S : Prop} (htb : tb.Ok P) (e : Nat) (ha : Acts ol act f) (hst : St w0 T L w) (h : List Nat) (hh : grpH n ol act e l f = some (true, g, j, d, rest)) (hr : runs tb n ol L ((j, true) :: act) e l f h True = some (o :: rest, F, S)) (hp : pickH n ol act o true F = some (d, g, b)) (hs : subB f e F = some f) (hS : g = true → S)
  (k : WL P n ol rest K ((d, .bool (g && b)) :: f) w) : WL P n ol l K f w := by
 obtain ⟨h1, h2⟩ := grpH_ok (P := P) (K := K) (KQ := fun _ => True) (C := fun _ => True) ha hh
 cases hg : g with
 | true =>
  subst hg
  obtain ⟨p1, p2, p3, p4⟩ := pickH_ok (P := P) (ha.subS (subB_ok hs)) hp
  refine WL.runA htb e (ha.cons h1 rfl) hst h hr (hS rfl) (WL.val p1 p2 p3 (p4 rfl w) (WL.subS (subB_ok hs).head ?_))
  rwa [Bool.true_and] at k
 | false => subst hg; exact (h2 rfl).1 w k
theorem WQ.gA {l rest : List Oper} {f : Fr} {g b : Bool} {j d : Nat} (e : Nat) (ha : Acts ol act f) (hh : grpH n ol act e l f = some (true, g, j, d, rest)) (hT : g = true → WQ P n ol rest C KQ ((d, .bool (g && b)) :: f) → WQ P n ol l C KQ f)
  (J : WQ P n ol rest C KQ ((d, .bool (g && b)) :: f)) : WQ P n ol l C KQ f := by
 obtain ⟨h1, h2⟩ := grpH_ok (P := P) (K := fun _ _ => True) (KQ := KQ) (C := C) ha hh
 cases g with
 | true => exact hT rfl J
 | false => exact (h2 rfl).2 J
theorem WQ.eA {o : Oper} {rest : List Oper} {F f : Fr} {g b : Bool} {d : Nat} (k : Nat) (ha : Acts ol act F) (J : WQ P n ol rest C KQ ((d, .bool (g && b)) :: f)) (hg : g = true) (hp : pickH n ol act o true F = some (d, g, b)) (hs : subB f k F = some f) : WQ P n ol (o :: rest) C KQ F := by
 obtain ⟨h1, h2, h3, h4⟩ := pickH_ok (P := P) ha hp
 refine WQ.val h1 h2 h3 (fun w _ => h4 hg w) (WQ.subS (subB_ok hs).head ?_)
 rwa [hg, Bool.true_and] at J
theorem WQ.pA {l rest : List Oper} {o : Oper} {f F : Fr} {g b : Bool} {j d : Nat} {S : Prop} (htb : tb.Ok P) (e : Nat) (ha : Acts ol act f) (h : List Nat) (hh : grpH n ol act e l f = some (true, g, j, d, rest)) (hr : runs tb n ol L ((j, true) :: act) e l f h True = some (o :: rest, F, S)) (hp : pickH n ol act o true F = some (d, g, b)) (hs : subB f e F = some f) (hS : g = true → S)
  (k : WQ P n ol rest (fun w' => St w0 T L w') KQ ((d, .bool (g && b)) :: f)) : WQ P n ol l (fun w' => St w0 T L w') KQ f := by
 obtain ⟨h1, h2⟩ := grpH_ok (P := P) (K := fun _ _ => True) (KQ := KQ) (C := fun w' => St w0 T L w') ha hh
 cases hg : g with
 | true =>
  subst hg
  obtain ⟨p1, p2, p3, p4⟩ := pickH_ok (P := P) (ha.subS (subB_ok hs)) hp
  refine WQ.runA htb e (ha.cons h1 rfl) h hr (hS rfl) (WQ.val p1 p2 p3 (fun w _ => p4 rfl w) (WQ.subS (subB_ok hs).head ?_))
  rwa [Bool.true_and] at k
 | false => subst hg; exact (h2 rfl).2 k
theorem WL.gO {l rest : List Oper} {f : Fr} {g b : Bool} {j d : Nat} (e : Nat) (ha : Acts ol act f) (hst : St w0 T L w) (hh : grpH n ol act e l f = some (false, g, j, d, rest)) (hT : g = false → (∀ w', St w0 T L w' → WL P n ol rest K ((d, .bool (g || b)) :: f) w') → WL P n ol l K f w)
  (J : (∀ w', St w0 T L w' → WL P n ol rest K ((d, .bool (g || b)) :: f) w')) : WL P n ol l K f w := by
 obtain ⟨h1, h2⟩ := grpH_ok (P := P) (K := K) (KQ := fun _ => True) (C := fun _ => True) ha hh
 cases g with
 | false => exact hT rfl J
 | true => exact (h2 rfl).1 w (J w hst)
theorem WL.eO {o : Oper} {rest : List Oper} {F f : Fr} {g b : Bool} {d : Nat} (k : Nat) (ha : Acts ol act F) (J : (∀ w', St w0 T L w' → WL P n ol rest K ((d, .bool (g || b)) :: f) w')) (hst : St w0 T L w) (hg : g = false) (hp : pickH n ol act o false F = some (d, g, b)) (hs : subB f k F = some f) : WL P n ol (o :: rest) K F w := by
 obtain ⟨h1, h2, h3, h4⟩ := pickH_ok (P := P) ha hp
 refine WL.val h1 h2 h3 (h4 hg w) (WL.subS (subB_ok hs).head ?_)
 have := J w hst
 rwa [hg, Bool.false_or] at this
theorem WL.pO {l rest : List Oper} {o : Oper} {f F : Fr} {g b : Bool} {j d : Nat} {S : Prop} (htb : tb.Ok P) (e : Nat) (ha : Acts ol act f) (hst : St w0 T L w) (h : List Nat) (hh : grpH n ol act e l f = some (false, g, j, d, rest)) (hr : runs tb n ol L ((j, false) :: act) e l f h True = some (o :: rest, F, S)) (hp : pickH n ol act o false F = some (d, g, b)) (hs : subB f e F = some f) (hS : g = false → S)
  (k : WL P n ol rest K ((d, .bool (g || b)) :: f) w) : WL P n ol l K f w := by
 obtain ⟨h1, h2⟩ := grpH_ok (P := P) (K := K) (KQ := fun _ => True) (C := fun _ => True) ha hh
 cases hg : g with
 | false =>
  subst hg
  obtain ⟨p1, p2, p3, p4⟩ := pickH_ok (P := P) (ha.subS (subB_ok hs)) hp
  refine WL.runA htb e (ha.cons h1 rfl) hst h hr (hS rfl) (WL.val p1 p2 p3 (p4 rfl w) (WL.subS (subB_ok hs).head ?_))
  rwa [Bool.false_or] at k
 | true => subst hg; exact (h2 rfl).1 w k
theorem WQ.gO {l rest : List Oper} {f : Fr} {g b : Bool} {j d : Nat} (e : Nat) (ha : Acts ol act f) (hh : grpH n ol act e l f = some (false, g, j, d, rest)) (hT : g = false → WQ P n ol rest C KQ ((d, .bool (g || b)) :: f) → WQ P n ol l C KQ f)
  (J : WQ P n ol rest C KQ ((d, .bool (g || b)) :: f)) : WQ P n ol l C KQ f := by
 obtain ⟨h1, h2⟩ := grpH_ok (P := P) (K := fun _ _ => True) (KQ := KQ) (C := C) ha hh
 cases g with
 | false => exact hT rfl J
 | true => exact (h2 rfl).2 J
theorem WQ.eO {o : Oper} {rest : List Oper} {F f : Fr} {g b : Bool} {d : Nat} (k : Nat) (ha : Acts ol act F) (J : WQ P n ol rest C KQ ((d, .bool (g || b)) :: f)) (hg : g = false) (hp : pickH n ol act o false F = some (d, g, b)) (hs : subB f k F = some f) : WQ P n ol (o :: rest) C KQ F := by
 obtain ⟨h1, h2, h3, h4⟩ := pickH_ok (P := P) ha hp
 refine WQ.val h1 h2 h3 (fun w _ => h4 hg w) (WQ.subS (subB_ok hs).head ?_)
 rwa [hg, Bool.false_or] at J
theorem WQ.pO {l rest : List Oper} {o : Oper} {f F : Fr} {g b : Bool} {j d : Nat} {S : Prop} (htb : tb.Ok P) (e : Nat) (ha : Acts ol act f) (h : List Nat) (hh : grpH n ol act e l f = some (false, g, j, d, rest)) (hr : runs tb n ol L ((j, false) :: act) e l f h True = some (o :: rest, F, S)) (hp : pickH n ol act o false F = some (d, g, b)) (hs : subB f e F = some f) (hS : g = false → S)
  (k : WQ P n ol rest (fun w' => St w0 T L w') KQ ((d, .bool (g || b)) :: f)) : WQ P n ol l (fun w' => St w0 T L w') KQ f := by
 obtain ⟨h1, h2⟩ := grpH_ok (P := P) (K := fun _ _ => True) (KQ := KQ) (C := fun w' => St w0 T L w') ha hh
 cases hg : g with
 | false =>
  subst hg
  obtain ⟨p1, p2, p3, p4⟩ := pickH_ok (P := P) (ha.subS (subB_ok hs)) hp
  refine WQ.runA htb e (ha.cons h1 rfl) h hr (hS rfl) (WQ.val p1 p2 p3 (fun w _ => p4 rfl w) (WQ.subS (subB_ok hs).head ?_))
  rwa [Bool.false_or] at k
 | true => subst hg; exact (h2 rfl).2 k
end
section
variable {β : Type}
def copyK : List Value → (List Value → Option β) → Option β
 | [], k => k []
 | v :: r, k => copyK r fun q => k (v :: q)
def setK : List Value → Nat → Value → (List Value → Option β) → Option β
 | [], _, _, _ => none
 | _ :: r, 0, v, k => k (v :: r)
 | x :: r, i + 1, v, k => setK r i v fun q => k (x :: q)
def overK : List Value → List Value → (List Value → Option β) → Option β
 | r, [], k => k r
 | [], _ :: _, _ => none
 | _ :: r, v :: vs, k => overK r vs fun q => k (v :: q)
def repK : List Value → Nat → List Value → (List Value → Option β) → Option β
 | r, 0, vs, k => overK r vs k
 | [], _ + 1, _, _ => none
 | x :: r, i + 1, vs, k => repK r i vs fun q => k (x :: q)
def setLK : Hp → Nat → Obj → (Hp → Option β) → Option β
 | [], _, _, _ => none
 | (b, _) :: r, 0, o, k => k ((b, o) :: r)
 | p :: r, i + 1, o, k => setLK r i o fun q => k (p :: q)
theorem copyK_some {x : β} : ∀ {l : List Value} {k : List Value → Option β}, copyK l k = some x → k l = some x
 | [], _, h => h
 | v :: r, k, h => copyK_some (l := r) (k := fun q => k (v :: q)) h
theorem setK_some {x : β} : ∀ {l : List Value} {i : Nat} {v : Value} {k : List Value → Option β}, setK l i v k = some x → k (l.set i v) = some x ∧ i < l.length
 | [], _, _, _, h => by cases h
 | _ :: r, 0, v, k, h => ⟨h, by simp⟩
 | y :: r, i + 1, v, k, h => by
  have := setK_some (l := r) (i := i) (k := fun q => k (y :: q)) h
  exact ⟨this.1, by simpa using this.2⟩
theorem overK_some {x : β} : ∀ {l vs : List Value} {k : List Value → Option β}, overK l vs k = some x → k (vs ++ l.drop vs.length) = some x ∧ vs.length ≤ l.length
 | l, [], k, h => by
  have h' : k l = some x := by cases l <;> exact h
  exact ⟨by simpa using h', Nat.zero_le _⟩
 | [], _ :: _, _, h => by cases h
 | _ :: r, v :: vs, k, h => by
  have := overK_some (l := r) (vs := vs) (k := fun q => k (v :: q)) h
  exact ⟨by simpa using this.1, by simpa using this.2⟩
theorem repK_some {x : β} : ∀ {l vs : List Value} {i : Nat} {k : List Value → Option β}, repK l i vs k = some x → k (l.take i ++ vs ++ l.drop (i + vs.length)) = some x ∧ i + vs.length ≤ l.length
 | l, vs, 0, k, h => by
  have h' : overK l vs k = some x := by cases l <;> exact h
  have := overK_some h'
  exact ⟨by simpa using this.1, by simpa using this.2⟩
 | [], _, _ + 1, _, h => by cases h
 | y :: r, vs, i + 1, k, h => by
  have := repK_some (l := r) (vs := vs) (i := i) (k := fun q => k (y :: q)) h
  refine ⟨?_, by have := this.2; simp only [List.length_cons]; omega⟩
  have e : i + 1 + vs.length = (i + vs.length) + 1 := by omega
  rw [e, List.take_succ_cons, List.drop_succ_cons]
  exact this.1
theorem setLK_some {x : β} : ∀ {l : Hp} {i : Nat} {o : Obj} {k : Hp → Option β}, setLK l i o k = some x → k (setL l i o) = some x
 | [], _, _, _, h => by cases h
 | (b, _) :: r, 0, o, k, h => h
 | p :: r, i + 1, o, k, h => setLK_some (l := r) (i := i) (k := fun q => k (p :: q)) h
end
def oneB (v : Value) : Bool := v.oneCell'
def stC (tb : TT) (o : Oper) (f : Fr) (L : Hp) (i : Nat) : Option (Hp × Prop) :=
 match o.guard, o.dst, o.op with
 | none, none, .store t x y => (match tb.get t, ev f x, ev f y, nthL L i with
  | some ⟨_, sz, ag⟩, some (.pointer (some ⟨b, off, none⟩)), some v, some (b', .cells cs e (lo, hi)) => bif Nat.ble hi lo then (match ag, v with
   | true, .agg vs => bif vs.toList.all oneB && Nat.beq vs.toList.length sz then repK cs.toList off vs.toList (fun cl => setLK L i (.cells cl.toArray e (lo, hi)) fun L' => some (L', b' = b)) else none
   | false, v => bif oneB v && Nat.beq sz 1 then setK cs.toList off v (fun cl => setLK L i (.cells cl.toArray e (lo, hi)) fun L' => some (L', b' = b)) else none
   | _, _ => none) else none
  | _, _, _, _ => none)
 | _, _, _ => none
section
variable {P : Program} {tb : TT} {w0 w : World} {T : List Nat} {L : Hp} {n : Nat} {ol rest : List Oper} {K : Fr → World → Prop} {f : Fr} {o : Oper}
theorem WL.st (htb : tb.Ok P) (hst : St w0 T L w) (i : Nat) {L' : Hp} {S : Prop} (h : stC tb o f L i = some (L', S)) (hS : S) (k : ∀ w', St w0 T L' w' → WL P n ol rest K f w') : WL P n ol (o :: rest) K f w := by
 unfold stC at h
 split at h
 ·rename_i t x y hg hd ho
  split at h
  ·rename_i sz ag b off v b' cs e lo hi ht hx hy hL
   obtain ⟨-, hz, hag⟩ := TT.get_ok htb ht
   cases hle : Nat.ble hi lo with
   | false => rw [hle] at h; cases h
   | true =>
    rw [hle] at h
    dsimp only [cond_true] at h
    have hle' := Nat.le_of_ble_eq_true hle
    split at h
    ·rename_i vs
     cases hc : (vs.toList.all oneB && Nat.beq vs.toList.length sz) with
     | false => rw [hc] at h; cases h
     | true =>
      rw [hc] at h
      dsimp only [cond_true] at h
      simp only [Bool.and_eq_true] at hc
      obtain ⟨h1, h2⟩ := repK_some h
      have h3 := setLK_some h1
      simp only [Option.some.injEq, Prod.mk.injEq] at h3
      obtain ⟨rfl, rfl⟩ := h3
      obtain rfl : b' = b := hS
      have hsz := Nat.eq_of_beq_eq_true hc.2
      have h4 : off + sz ≤ cs.toList.length := by rw [← hsz]; exact h2
      refine WL.storeA (cl := cs.toList) (vs := vs.toList) hst i hz ho (want_none hg) hd hx hy rfl (by simpa using hL) hc.1 hsz h4 (.inl hle') fun w' hw' => k w' ?_
      rw [hsz] at h1 h2
      simpa [hsz] using hw'
    ·cases hc : (oneB v && Nat.beq sz 1) with
     | false => rw [hc] at h; cases h
     | true =>
      rw [hc] at h
      dsimp only [cond_true] at h
      simp only [Bool.and_eq_true] at hc
      obtain ⟨h1, h2⟩ := setK_some h
      have h3 := setLK_some h1
      simp only [Option.some.injEq, Prod.mk.injEq] at h3
      obtain ⟨rfl, rfl⟩ := h3
      obtain rfl : b' = b := hS
      have hsz := Nat.eq_of_beq_eq_true hc.2
      subst hsz
      exact WL.storeI (cl := cs.toList) hst i hz ho (want_none hg) hd hx hy (by simpa using hL) hc.1 h2 (by omega) fun w' hw' => k w' hw'
    ·cases h
  ·cases h
 ·cases h
def cellsK (v : Value) : Option (List Value) :=
 match v with
 | .agg cs => copyK cs.toList some
 | v => some [v]
theorem cellsK_ok {v : Value} {cl : List Value} (h : cellsK v = some cl) : cellsOf v = cl := by
 cases v with
 | agg cs => exact Option.some.inj (copyK_some h)
 | _ => exact Option.some.inj h
def bxC (n : Nat) (o : Oper) (f : Fr) : Option (Nat × TypeId × List Value) :=
 match o.guard, o.dst, o.op with
 | none, some d, .box t x => (match ev f x with
  | some v => bif Nat.blt d n then (match cellsK v with
   | some cl => some (d, t, cl)
   | none => none) else none
  | none => none)
 | _, _, _ => none
theorem WL.bx (hst : St w0 T L w) {d : Nat} {t : TypeId} {cl : List Value} (h : bxC n o f = some (d, t, cl)) (k : ∀ b w', St w0 T ((b, .cells cl.toArray t (0, 0)) :: L) w' → WL P n ol rest K ((d, .pointer (some ⟨b, 0, none⟩)) :: f) w') : WL P n ol (o :: rest) K f w := by
 unfold bxC at h
 split at h
 ·rename_i d' t' x hg hd ho
  split at h
  ·rename_i v hx
   cases hn : Nat.blt d' n with
   | false => rw [hn] at h; cases h
   | true =>
    rw [hn] at h
    dsimp only [cond_true] at h
    split at h
    ·rename_i cl' hcl
     simp only [Option.some.injEq, Prod.mk.injEq] at h
     obtain ⟨rfl, rfl, rfl⟩ := h
     exact WL.box hst ho (want_none hg) hd hn hx (cellsK_ok hcl) k
    ·cases h
  ·cases h
 ·cases h
def alC (n : Nat) (o : Oper) : Option (Nat × TypeId) :=
 match o.guard, o.dst, o.op with
 | none, some d, .alloc t => bif Nat.blt d n then some (d, t) else none
 | _, _, _ => none
theorem WL.al (hst : St w0 T L w) {d : Nat} {t : TypeId} {z : Value} {cl : List Value} (hz : ∀ w, (zeroValue t).run P w = .ok z w) (h : alC n o = some (d, t)) (hc : cellsK z = some cl) (k : ∀ b w', St w0 T ((b, .cells cl.toArray t (0, 0)) :: L) w' → WL P n ol rest K ((d, .pointer (some ⟨b, 0, none⟩)) :: f) w') : WL P n ol (o :: rest) K f w := by
 unfold alC at h
 split at h
 ·rename_i d' t' hg hd ho
  cases hn : Nat.blt d' n with
  | false => rw [hn] at h; cases h
  | true =>
   rw [hn] at h
   simp only [cond_true, Option.some.injEq, Prod.mk.injEq] at h
   obtain ⟨rfl, rfl⟩ := h
   exact WL.alloc hst hz ho (want_none hg) hd hn (cellsK_ok hc) k
 ·cases h
end
def dtK (cs : List Value) (off sz : Nat) : Option (List Value) := dropK cs off fun l => takeK l sz some
theorem dtK_ok {cs vs : List Value} {off sz : Nat} (h : dtK cs off sz = some vs) : (cs.drop off).take sz = vs ∧ vs.length = sz := by
 obtain ⟨h1, h2⟩ := dropK_some h
 obtain ⟨h3, h4⟩ := takeK_some h1
 have e := Option.some.inj h3
 exact ⟨e, by rw [← e, List.length_take]; exact Nat.min_eq_left h4⟩
theorem resV.cellA {P : Program} {w0 w : World} {T : List Nat} {L : Hp} {tb : TT} {f : Fr} {a b sz : Nat} {t : TypeId} {k : TK} {cl vs : List Value} {e : TypeId} {fz : Nat × Nat} (htb : tb.Ok P) (hst : St w0 T L w) (i : Nat) (hl : lk f a = some (.pointer (some ⟨b, 0, none⟩))) (hi : nthL L i = some (b, .cells cl.toArray e fz)) (ht : tb.get t = some ⟨k, sz, true⟩) (hc : dtK cl 0 sz = some vs) : resV P f w (.cell a t) (.agg vs.toArray) := by
 obtain ⟨-, hz, hag⟩ := TT.get_ok htb ht
 obtain ⟨h1, h2⟩ := dtK_ok hc
 exact resV.cell hl (run_loadVarA hag hz (cells_of_heap (hst.own _ (nthL_mem hi)).1 h1 h2))
section
variable {P : Program} {tb : TT} {w0 w : World} {T : List Nat} {L : Hp} {n : Nat} {ol : List Oper} {act : List (Nat × Bool)} {K : Fr → World → Prop} {KQ : Fr → Prop} {C : World → Prop}
theorem WL.mono {l : List Oper} {K' : Fr → World → Prop} {f : Fr} (h : WL P n ol l K f w) (hk : ∀ f w, K f w → K' f w) : WL P n ol l K' f w := fun Q a ha hq => h Q a ha fun a' f' w' hg hh => hq a' f' w' hg (hk _ _ hh)
theorem WQ.mono {l : List Oper} {KQ' : Fr → Prop} {f : Fr} (h : WQ P n ol l C KQ f) (hk : ∀ f, KQ f → KQ' f) : WQ P n ol l C KQ' f := fun a ha => by
 refine (?_ : ∀ (l : List Oper) (a : Act), wpQuiet P _ C (fun a' => ∃ f', Good a' n f' ∧ KQ f') l a → wpQuiet P _ C (fun a' => ∃ f', Good a' n f' ∧ KQ' f') l a) l a (h a ha)
 intro l
 induction l with
 | nil =>
  rintro a ⟨f', hg, hh⟩
  exact ⟨f', hg, hk _ hh⟩
 | cons o r ih =>
  intro a ha
  unfold wpQuiet at ha ⊢
  split
  ·rename_i hw
   rw [if_pos hw] at ha
   exact Oper.quiet_mono ih ha
  ·rename_i hw
   rw [if_neg hw] at ha
   exact ih _ ha
theorem WC.sr {id : Nat} {l : List Oper} {y : Code} {Q : Kont} {f : Fr} (h : WL P n l l (fun f w => WC P n y Q f w) f w) : WC P n (.seq (.region id l.toArray false) y) Q f w :=
 WC.seq fun K hK => WC.region (h.mono fun f w hh => hK f w hh)
theorem WC.sq {id : Nat} {l : List Oper} {y : Code} {Q : Kont} {f : Fr} (hst : St w0 T L w) (hm : P.follows .mixedOrders = true) (hl : Region.lexB .any l.toArray = true) (h : WQ P n l l (fun w' => St w0 T L w') (fun f' => ∀ w', St w0 T L w' → WC P n y Q f' w') f) : WC P n (.seq (.region id l.toArray true) y) Q f w :=
 WC.seq fun K hK => WC.regionQ (fun w' => St w0 T L w') hm hl hst.drew (h.mono fun f' hh w' hw => hK f' w' (hh w' hw))
theorem WC.rr {id : Nat} {l : List Oper} {y : Code} {Q : Kont} {f f' : Fr} {S : Prop} (htb : tb.Ok P) (hst : St w0 T L w) (h : List Nat) (hr : runs tb n l L [] l.length l f h True = some ([], f', S)) (hS : S) (k : WC P n y Q f' w) : WC P n (.seq (.region id l.toArray false) y) Q f w :=
 WC.sr (WL.run htb l.length hst h hr hS (WL.nil k))
theorem WC.rq {id : Nat} {l : List Oper} {y : Code} {Q : Kont} {f f' : Fr} {S : Prop} (htb : tb.Ok P) (hst : St w0 T L w) (hm : P.follows .mixedOrders = true) (hl : Region.lexB .any l.toArray = true) (h : List Nat) (hr : runs tb n l L [] l.length l f h True = some ([], f', S)) (hS : S) (k : ∀ w', St w0 T L w' → WC P n y Q f' w') : WC P n (.seq (.region id l.toArray true) y) Q f w :=
 WC.sq hst hm hl (WQ.run htb l.length h hr hS (WQ.nil k))
theorem WC.cD {c : Operand} {x y : Code} {p : Prop} [Decidable p] {Q : Kont} {f : Fr} (hc : ev f c = some (.bool (decide p))) (hx : p → WC P n x Q f w) (hy : ¬ p → WC P n y Q f w) : WC P n (.cond c x y) Q f w :=
 WC.cond hc (fun h => hx (of_decide_eq_true h)) (fun h => hy (of_decide_eq_false h))
theorem u8_in (b : UInt8) : In64 (b.toNat : Int) := by have := b.toNat_lt; constructor <;> omega
theorem bf : (∀ (p : Prop) [Decidable p], (decide p = true) = p) ∧ (∀ (p : Prop) [Decidable p], (decide p = false) = ¬ p) ∧ (∀ b : Bool, ((!b) = true) = (b = false)) ∧ (∀ b : Bool, ((!b) = false) = (b = true)) ∧ (∀ a b : Bool, ((a && b) = true) = (a = true ∧ b = true)) ∧ (∀ a b : Bool, ((a || b) = false) = (a = false ∧ b = false)) :=
 ⟨fun _ _ => by simp, fun _ _ => by simp, fun b => by simp, fun b => by simp, fun a b => by simp, fun a b => by simp⟩
end
theorem St.takes1 (w : World) (L1 : Hp) (h1 : ∀ p, p ∈ L1 → w.heap[p.1]? = some p.2) (hd : (L1.map (·.1)).Nodup) : St w (L1.map (·.1)) (L1 ++ []) w := St.lent w L1 h1 hd
def OwnN {α : Type} (F : Enc α) (own : α → Hp → Prop) (e : TypeId) (v : Value) (xs : List α) (L : Hp) : Prop := ∃ L0 Lb, L = L0 ++ Lb ∧ OwnF F e v xs L0 ∧ Bag own xs Lb
section
variable {α : Type} {F : Enc α} {own : α → Hp → Prop} {e : TypeId} {v : Value} {xs ys : List α} {L L0 Lb R : Hp} {w0 w : World} {T : List Nat} {A : Option Addr} {n c : Nat}
theorem OwnN.nil (F : Enc α) (own : α → Hp → Prop) (e : TypeId) : OwnN F own e (.slice none 0 0) [] [] := ⟨[], [], rfl, OwnF.nil F e, Bag.nil⟩
theorem OwnN.nilA (F : Enc α) (own : α → Hp → Prop) (e : TypeId) (A : Option Addr) : OwnN F own e (.slice A 0 0) [] [] := ⟨[], [], rfl, OwnF.nilA F e A, Bag.nil⟩
theorem OwnN.shape (h : OwnN F own e v xs L) : ∃ A c, v = .slice A xs.length c := by
 obtain ⟨L0, Lb, rfl, h1, h2⟩ := h
 exact h1.shape
theorem OwnN.len_ (h : OwnN F own e (.slice A n c) xs L) : xs.length = n := by
 obtain ⟨L0, Lb, rfl, h1, h2⟩ := h
 exact h1.len_
theorem OwnN.cap (h : OwnN F own e (.slice A n c) xs L) : n ≤ c := by
 obtain ⟨L0, Lb, rfl, h1, h2⟩ := h
 exact h1.cap
theorem OwnN.eqOf (_ : OwnN F own e v ys L) (h : ys = xs) : ys = xs := h
theorem OwnN.ok {ok : World → α → Prop} (h : OwnN F own e (.slice A n c) xs L) (hh : ∀ p, p ∈ L → w.heap[p.1]? = some p.2) (hk : ∀ x Li, x ∈ xs → own x Li → (∀ p, p ∈ Li → w.heap[p.1]? = some p.2) → ok w x) : SlN F ok w A n xs := by
 obtain ⟨L0, Lb, rfl, h1, h2⟩ := h
 refine ⟨SlF.ofOwn h1 fun p hp => hh p (List.mem_append_left _ hp), fun x hx => ?_⟩
 obtain ⟨Li, h3, h4⟩ := h2.mem x hx
 exact hk x Li hx h3 fun p hp => hh p (List.mem_append_right _ (h4 p hp))
theorem OwnN.sl (h : OwnN F own e (.slice A n c) xs L) (hh : ∀ p, p ∈ L → w.heap[p.1]? = some p.2) : SlF F w A n xs := by
 obtain ⟨L0, Lb, rfl, h1, h2⟩ := h
 exact SlF.ofOwn h1 fun p hp => hh p (List.mem_append_left _ hp)
theorem OwnN.fold (hs : St w0 T (L0 ++ (Lb ++ R)) w) (o : OwnF F e v xs L0) (b : Bag own xs Lb) : ∃ L, St w0 T (L ++ R) w ∧ OwnN F own e v xs L :=
 ⟨L0 ++ Lb, by simpa only [List.append_assoc] using hs, L0, Lb, rfl, o, b⟩
theorem OwnN.open_ (hs : St w0 T (L ++ R) w) (h : OwnN F own e v xs L) : ∃ L0 Lb, St w0 T (L0 ++ (Lb ++ R)) w ∧ OwnF F e v xs L0 ∧ Bag own xs Lb := by
 obtain ⟨L0, Lb, rfl, o, b⟩ := h
 exact ⟨L0, Lb, by simpa only [List.append_assoc] using hs, o, b⟩
theorem Bag.out {i : Nat} (hs : St w0 T (Lb ++ R) w) (b : Bag own xs Lb) (hi : i < xs.length) : ∃ La Li Lc, St w0 T (Li ++ ((La ++ Lc) ++ R)) w ∧ own (gat F xs i) Li ∧ (∀ {w' : World} {T' : List Nat} {R' : Hp} (x' : α) (Li' : Hp), St w0 T' (Li' ++ ((La ++ Lc) ++ R')) w' → own x' Li' → ∃ Lb', St w0 T' (Lb' ++ R') w' ∧ Bag own (xs.set i x') Lb') := by
 obtain ⟨La, Li, Lc, rfl, h1, h2⟩ := Bag.nth (F := F) b hi
 refine ⟨La, Li, Lc, hs.perm ?_, h1, fun x' Li' hs' hx => ⟨_, hs'.perm ?_, h2 x' Li' hx⟩⟩
 ·simp only [List.append_assoc]
  exact (List.perm_append_comm_assoc _ _ _)
 ·simp only [List.append_assoc]
  exact (List.perm_append_comm_assoc _ _ _)
theorem Bag.replace {i : Nat} {Lr : Hp} {r : α} (hs : St w0 T (Lb ++ (Lr ++ R)) w) (b : Bag own xs Lb) (hi : i < xs.length) (hr : own r Lr) : ∃ Lb', St w0 T (Lb' ++ R) w ∧ Bag own (xs.set i r) Lb' := by
 obtain ⟨La, Li, Lc, rfl, h1, h2⟩ := Bag.nth (F := ⟨1, fun _ => [.bool true], r, fun _ => rfl, fun _ _ h => by simp at h; subst h; rfl, by decide⟩) b hi
 refine ⟨La ++ (Lr ++ Lc), St.perm (hs.drop (L' := La ++ (Lc ++ (Lr ++ R))) ?_) ?_, h2 r Lr hr⟩
 ·simp only [List.append_assoc]
  exact List.Sublist.append_left (List.sublist_append_right Li _) La
 ·simp only [List.append_assoc]
  exact List.Perm.append_left La (List.perm_append_comm_assoc _ _ _)
theorem Bag.same : ∀ {xs : List α} {i : Nat} {Lb : Hp} {x : α}, Bag own xs Lb → (∀ y L, xs[i]? = some y → own y L → own x L) → Bag own (xs.set i x) Lb
 | [], _, _, _, b, _ => b
 | y :: r, 0, _, x, b, h => by
  obtain ⟨L1, L2, rfl, h1, h2⟩ := b
  exact ⟨L1, L2, rfl, h y L1 rfl h1, h2⟩
 | y :: r, i + 1, _, x, b, h => by
  obtain ⟨L1, L2, rfl, h1, h2⟩ := b
  exact ⟨L1, L2, rfl, h1, Bag.same h2 fun z L hz hl => h z L (by simpa using hz) hl⟩
theorem Bag.dflts {n : Nat} {d : α} (h : own d []) : Bag own (List.replicate n d) [] := by
 induction n with
 | zero => exact rfl
 | succ n ih => exact ⟨[], [], rfl, h, ih⟩
theorem OwnN.new {n : Nat} {d : α} (hs : St w0 T (L ++ R) w) (o : OwnF F e v (List.replicate n d) L) (h : own d []) : ∃ L', St w0 T (L' ++ R) w ∧ OwnN F own e v (List.replicate n d) L' :=
 ⟨L ++ [], by simpa using hs, L, [], rfl, o, Bag.dflts h⟩
theorem OwnN.fresh {xs : List α} (hs : St w0 T (L ++ R) w) (o : OwnF F e v xs L) (h : Bag own xs []) : ∃ L', St w0 T (L' ++ R) w ∧ OwnN F own e v xs L' :=
 ⟨L ++ [], by simpa using hs, L, [], rfl, o, h⟩
end
abbrev SlD.of {α : Type} {F : Enc α} {e : TypeId} {A : Option Addr} {n c : Nat} {xs : List α} {L : Hp} (_ : OwnF F e (.slice A n c) xs L) : SlD α := ⟨A, n, c, xs⟩
abbrev SlD.ofN {α : Type} {F : Enc α} {own : α → Hp → Prop} {e : TypeId} {A : Option Addr} {n c : Nat} {xs : List α} {L : Hp} (_ : OwnN F own e (.slice A n c) xs L) : SlD α := ⟨A, n, c, xs⟩
abbrev SlD.rd {α : Type} {F : Enc α} {w : World} {A : Option Addr} {n c : Nat} {xs : List α} (_ : SlF F w A n xs) (_ : n ≤ c) : SlD α := ⟨A, n, c, xs⟩
def tots {α : Type} (f : α → Nat) (l : List α) : Nat := l.length + (l.map f).sum
theorem le_sum : ∀ {l : List Nat} {x : Nat}, x ∈ l → x ≤ l.sum
 | [], _, h => by cases h
 | y :: r, x, h => by
  rw [List.sum_cons]
  rcases List.mem_cons.1 h with rfl | h
  ·omega
  ·have := le_sum h; omega
theorem tots_mem {α : Type} {f : α → Nat} {l : List α} {x : α} (h : x ∈ l) : f x ≤ tots f l := by
 have : f x ≤ (l.map f).sum := le_sum (List.mem_map_of_mem h)
 unfold tots; omega
theorem tots_len {α : Type} (f : α → Nat) (l : List α) : l.length ≤ tots f l := Nat.le_add_right _ _
theorem map_take_succ {α β : Type} {F : Enc α} {f : α → β} {xs : List α} {i : Nat} (h : i < xs.length) : (xs.take (i + 1)).map f = (xs.take i).map f ++ [f (gat F xs i)] := by
 rw [List.take_add_one, gat_get (F := F) h, List.map_append]; rfl
theorem WH.strS {P : Program} {n : Nat} {ol : List Oper} {K : Fr → World → Prop} {f : Fr} {w0 w : World} {T : List Nat} {L : Hp} {S : World → Prop} {fuel : Nat} {listed : List Bool} (_hs : St w0 T L w) (hi : ∀ w', St w0 T L w' → S w')
  (h : WH P n ol (fun w' => St w0 T L w') fuel listed K f w) : WH P n ol S fuel listed K f w := fun Q a hp ha hk => by
 have key : ∀ (fuel : Nat) (listed : Array Bool) (a : Act) (w : World), wpAnyH P .any ol.toArray Q (fun w' => St w0 T L w') fuel listed a w → wpAnyH P .any ol.toArray Q S fuel listed a w := by
  intro fuel
  induction fuel with
  | zero => intro listed a w h; exact h
  | succ fuel ih => intro listed a w h; exact ⟨h.1, fun i hi' => wpOp_mono (fun a' w' h' => ⟨hi _ h'.1, ih _ _ _ h'.2⟩) (h.2 i hi')⟩
 exact key _ _ _ _ (h Q a hp ha hk)
section
variable {α : Type} {F : Enc α} {P : Program} {w0 w : World} {T : List Nat} {n : Nat} {ol : List Oper} {o : Oper} {rest : List Oper} {f : Fr} {d : Nat} {K : Fr → World → Prop}
theorem firstCells_any {sz k k' c c' : Nat} {A : Option Addr} {us : Array Value} (h : (Builtin.firstCells sz k (.slice A k c)).run P w = .ok us w) : (Builtin.firstCells sz k (.slice A k' c')).run P w = .ok us w := by
 cases A <;> exact h
theorem WL.copyF {L1 R : Hp} {xs ys : List α} {A A' B : Option Addr} {m c lo q k' c' cb : Nat} {e t t2 : TypeId} {i : TypeInfo} {x y : Operand} (hst : St w0 T (L1 ++ R) w) (hown : OwnF F e (.slice A m c) xs L1) (hs : SlF F w A' k' ys) (ht : P.underlying t = some (.slice e)) (ht2 : P.underlying t2 = some (.slice e)) (hi : P.info? e = some i) (hs1 : Nat.beq i.size F.sz = true)
  (ho : o.op = .call { callee := .builtin .copy, args := #[x, y], argTypes := #[t, t2] }) (hw : want ol o f = some true) (hd : o.dst = some d) (hn : Nat.blt d n = true) (hx : ev f x = some (.slice B q cb)) (hy : ev f y = some (.slice A' k' c')) (hB : B = cutA A lo F.sz c ∨ (lo = 0 ∧ B = A)) (hlo : lo + q ≤ m) (h0q : 0 < q)
  (k : ∀ L1' w', St w0 T (L1' ++ R) w' → OwnF F e (.slice A m c) (xs.take lo ++ ys.take (min k' q) ++ xs.drop (lo + min k' q)) L1' → WL P n ol rest K ((d, .int .i64 (min k' q : Nat)) :: f) w') : WL P n ol (o :: rest) K f w := by
 have hs1' := Nat.eq_of_beq_eq_true hs1
 have hl := hown.len_
 have hk := hs.len
 have hyl : (ys.take (min k' q)).length = min k' q := by rw [List.length_take]; omega
 obtain ⟨g, pre, cl, a, b, rfl, rfl, hfz, hle, hupd⟩ := hown.updR (i := lo) (ys := ys.take (min k' q)) (by omega) (by rw [hyl]; omega)
 have hc := hown.cap
 have hrl : (rows F (ys.take (min k' q))).length = min k' q * F.sz := by rw [rows_len, hyl]
 rw [hyl] at hle hupd
 have e0 : (lo + min k' q) * F.sz = lo * F.sz + min k' q * F.sz := Nat.add_mul _ _ _
 have hpl : (pre ++ cl).length = pre.length + cl.length := List.length_append
 obtain ⟨w', hr, hs'⟩ := hst.stored (P := P) 0 (off := pre.length + lo * F.sz) (vs := rows F (ys.take (min k' q))) rfl rows_one (by rw [hrl]; omega) (by rcases hfz with h | h <;> omega)
 rw [splice_pre] at hs'
 have hcut := hs.cutH (hi := min k' q) (c := k') ⟨by omega, by omega, by omega⟩
 have hcut' : SlF F w A' (min k' q) (ys.take (min k' q)) := by
  by_cases h0 : min k' q = 0
  ·rw [h0] at hcut ⊢
   rw [List.take_zero]
   exact SlF.nil _ _
  ·have e3 : cutA A' 0 F.sz k' = A' := by
    unfold cutA
    rw [if_neg (by omega)]
    cases A' with
    | none => rfl
    | some q => simp [Addr.add]
   rwa [e3] at hcut
 have hsrc := (SlF.src (P := P) (c := c') hcut' ht2).cells
 rw [hyl] at hsrc
 have e2 : B = some ⟨g, pre.length + lo * F.sz, none⟩ := by
  rcases hB with rfl | ⟨rfl, rfl⟩
  ·unfold cutA
   rw [if_neg (by omega)]
   simp only [Option.map_some, addr_at]
  ·simp
 subst e2
 refine WL.val (w' := w') (v := .int .i64 (min k' q : Nat)) hw hd hn (fun ρ hρ => ?_) (k [(g, .cells (pre ++ (cl.take (lo * F.sz) ++ rows F (ys.take (min k' q)) ++ cl.drop (lo * F.sz + (rows F (ys.take (min k' q))).length))).toArray e (a, b))] w' hs' ?_)
 ·have hmin : Nat.min k' q = min k' q := rfl
  simp [execOp, ho, hρ _ _ hx, hρ _ _ hy, resolve, invoke, builtin, Builtin.copy_, run_underlying ht, Builtin.lenOf, sizeOf, typeInfo, hi, hs1', hmin, firstCells_any hsrc, hr, goInt]
 ·have := hupd _ (by rw [e0])
  rw [hrl]
  exact this
end
section
variable {P : Program} {w : World} {o : Oper} {f : Fr} {t t' : TypeId} {x y : Operand} {k : IntKind}
theorem wrapU {a : Int} (n : Nat) (h : a = (n : Int)) (hn : n < 18446744073709551616) : IntKind.u64.wrap a = (n : Int) := by
 subst h
 simp [IntKind.wrap, IntKind.bits, IntKind.signed]
 omega
theorem Run.shrU (n m : Nat) {b : Int} (ho : o.op = .binOp .shr t x y t') (hx : ev f x = some (.int .u64 (n : Int))) (hy : ev f y = some (.int k b)) (h0 : 0 ≤ b) (h1 : b ≤ 63) (hm : n / 2 ^ b.toNat = m) : Run P o f w (.value (.int .u64 (m : Int))) w := fun ρ hρ => by
 have e : Min.min b.toNat 64 = b.toNat := by omega
 have h2 : ¬ b < 0 := by omega
 have e4 : (n : Int) / 2 ^ b.toNat = (m : Int) := by rw [← hm]; simp
 have e3 : (n : Int).fdiv (2 ^ b.toNat) = (m : Int) := by
  rw [Int.fdiv_eq_ediv_of_nonneg _ (by exact Int.le_of_lt (Int.pow_pos (by decide))), e4]
 simp [execOp, ho, hρ _ _ hx, hρ _ _ hy, eqGuard, binOp, Op.shift, IntKind.bits, e, h2, e3, e4]
end
section
variable {w0 w w' : World} {T : List Nat} {R L1 L2 : Hp} {b : Nat} {o o' : Obj}
theorem St.takeP (w : World) (b : Nat) (o : Obj) (L1 : Hp) (hb : w.heap[b]? = some o) (h1 : ∀ p, p ∈ L1 → w.heap[p.1]? = some p.2) (hd : (b :: L1.map (·.1)).Nodup) : St w (b :: L1.map (·.1)) ((b, o) :: (L1 ++ [])) w := by
 have h := St.take w ((b, o) :: L1) (fun p hp => by
  rcases List.mem_cons.1 hp with rfl | hp
  ·exact hb
  ·exact h1 p hp) hd
 rw [List.append_nil]; exact h
theorem St.keepP (h : St w0 T ((b, o) :: (L1 ++ R)) w) : St w0 T ([(b, o)] ++ L1) w := h.drop (List.Sublist.cons_cons _ (List.sublist_append_left _ _))
theorem St.nodupP (h : St w0 T ((b, o) :: (L1 ++ R)) w) : (b :: L1.map (·.1)).Nodup := St.nodupL (L1 := (b, o) :: L1) (R := R) h
theorem St.lendP (h : St w0 T ((b, o) :: (L1 ++ R)) w) (h2 : St w (b :: L1.map (·.1)) ([(b, o')] ++ L2) w') : St w0 T ((b, o') :: (L2 ++ R)) w' := St.lend (A := (b, o) :: L1) (C := R) h h2
theorem St.headP (h : St w0 T ((b, o) :: (L1 ++ R)) w) : w.heap[b]? = some o := (h.own (b, o) List.mem_cons_self).1
theorem St.ownP (h : St w0 T ((b, o) :: (L1 ++ R)) w) : ∀ p, p ∈ L1 → w.heap[p.1]? = some p.2 := fun p hp => (h.own p (List.mem_cons_of_mem _ (List.mem_append_left _ hp))).1
theorem St.sepP {α : Type} {F : Enc α} {A : Option Addr} {n : Nat} {xs : List α} (h : St w0 [] ((b, o) :: (L1 ++ R)) w) (f : SlF F w0 A n xs) : 0 < n → (adr A).block ∉ b :: L1.map (·.1) := St.sep (L1 := (b, o) :: L1) (R := R) h f
theorem St.sepTP {α : Type} {F : Enc α} {A : Option Addr} {n : Nat} {xs : List α} (h : St w0 T ((b, o) :: (L1 ++ R)) w) (f : SlF F w0 A n xs) (s : 0 < n → (adr A).block ∉ T) : 0 < n → (adr A).block ∉ b :: L1.map (·.1) := St.sepT (L1 := (b, o) :: L1) (R := R) h f s
end
theorem Bag.put {α : Type} {own : α → Hp → Prop} {xs : List α} {x : α} {La Lb R : Hp} {w0 w : World} {T : List Nat} (hs : St w0 T (La ++ (Lb ++ R)) w) (b : Bag own xs La) (o : own x Lb) : ∃ L, St w0 T (L ++ R) w ∧ Bag own (xs ++ [x]) L := ⟨La ++ Lb, by rw [List.append_assoc]; exact hs, b.snoc o⟩
section
variable {α : Type} {F : Enc α} {own : α → Hp → Prop} {e : TypeId} {xs : List α} {L R : Hp} {A : Option Addr} {n c k : Nat} {w0 w : World} {T : List Nat}
theorem Bag.dropK (b : Bag own xs L) : ∃ L', Bag own (xs.drop k) L' ∧ L'.Sublist L := by
 obtain ⟨La, Lb, rfl, h1, h2⟩ := Bag.split (xs := xs.take k) (ys := xs.drop k) (L := L) (by rwa [List.take_append_drop])
 exact ⟨Lb, h2, List.sublist_append_right _ _⟩
theorem OwnF.spare (h : OwnF F e (.slice A n c) xs L) (hq : n < c) : ∃ (g : Nat) (pre cl : List Value) (lo hi : Nat), A = some ⟨g, pre.length, none⟩ ∧ L = [(g, .cells (pre ++ cl).toArray e (lo, hi))] ∧ (hi ≤ lo ∨ (pre ++ cl).length ≤ lo) ∧ cl.length = c * F.sz ∧
  ∀ cl' : List Value, cl'.length = cl.length → cl'.take (n * F.sz) = cl.take (n * F.sz) → OwnF F e (.slice A n c) xs [(g, .cells (pre ++ cl').toArray e (lo, hi))] := by
 have hl := h.len_
 rcases h.2 with ⟨⟨A', hv⟩, h0', rfl⟩ | ⟨g, cap, o, pre, cl, ⟨lo, hi'⟩, hv, rfl, hn, hc, hcl, ht, hfz, rfl⟩
 ·cases hv; omega
 ·cases hv
  refine ⟨g, pre, cl, lo, hi', rfl, rfl, hfz, hcl, fun cl' h1 h2 => ⟨h.1, .inr ⟨g, c, pre.length, pre, cl', (lo, hi'), rfl, rfl, hn, hc, by rw [h1, hcl], ?_, by rw [List.length_append, h1, ← List.length_append]; exact hfz, rfl⟩⟩⟩
  rw [hl, h2, ← hl, ht]
end
section
variable {P : Program} {ops : Array Oper} {Q : Exit → Act → World → Prop} {md : Region.Mode} {S S1 : World → Prop} {k : Nat}
def wpAnyG (P : Program) (md : Region.Mode) (ops : Array Oper) (Q : Exit → Act → World → Prop) (k : Nat) (S1 S : World → Prop) : Nat → Array Bool → Act → World → Prop
 | 0, listed, a, w => Region.ready md ops listed = [] ∧ Q .normal a w
 | fuel + 1, listed, a, w =>
  (Region.ready md ops listed = [] → Q .normal a w) ∧
  ∀ i ∈ Region.ready md ops listed, (i = k → wpOp P ops Q i (fun a' w' => S w' ∧ wpAnyH P md ops Q S fuel (listed.setIfInBounds i true) a' w') a w) ∧
   (i ≠ k → wpOp P ops Q i (fun a' w' => S1 w' ∧ wpAnyG P md ops Q k S1 S fuel (listed.setIfInBounds i true) a' w') a w)
theorem wpAny_of_gate : ∀ (fuel : Nat) (listed : Array Bool) (a : Act) (w : World), wpAnyG P md ops Q k S1 S fuel listed a w → wpAny P md ops Q fuel listed a w
 | 0, _, _, _, h => h
 | fuel + 1, _, _, _, h => ⟨h.1, fun i hi => by
  by_cases e : i = k
  ·exact wpOp_mono (fun a' w' h' => wpAny_of_held fuel _ a' w' h'.2) ((h.2 i hi).1 e)
  ·exact wpOp_mono (fun a' w' h' => wpAny_of_gate fuel _ a' w' h'.2) ((h.2 i hi).2 e)⟩
theorem wpAnyG_first {i : Nat} {oi ok : Oper} {v : Value} (hi : ops[i]? = some oi) (hok : ops[k]? = some ok) (hdep : ∃ e ∈ ok.after, Region.binds md e = true ∧ e.on = i) (hik : i ≠ k) (hsel : ∀ (j : Nat) (o : Oper) cs b, ops[j]? = some o → o.op ≠ .select cs b)
  (hQ : ∀ c a w, Q (.panic c) (a.put oi.dst v) w → Q (.panic c) a w) :
  ∀ (fuel : Nat) (listed : Array Bool) (a : Act) (w : World),
   (∀ j oj, ops[j]? = some oj → j ≠ i → listed.getD j true = false → (∀ e ∈ oj.after, Region.binds md e = true → e.on ≠ i) → oi.apart ops oj = true) →
   i ∈ Region.ready md ops listed → YieldsIf P ops S1 oi v a → S1 w →
   wpAnyG P md ops Q k S1 S fuel (listed.setIfInBounds i true) (a.put oi.dst v) w → wpAnyG P md ops Q k S1 S (fuel + 1) listed a w := by
 intro fuel
 have hnotk : ∀ (listed : Array Bool), i ∈ Region.ready md ops listed → k ∉ Region.ready md ops listed := by
  intro listed hr hk
  obtain ⟨e, he, hb, hon⟩ := hdep
  obtain ⟨_, o', ho', hall⟩ := mem_ready.1 hk
  rw [hok] at ho'
  cases ho'
  have h1 := hall e he hb
  have h0 := (mem_ready.1 hr).1
  rw [hon] at h1
  rcases Nat.lt_or_ge i listed.size with h' | h'
  ·simp [h'] at h0 h1; rw [h0] at h1; cases h1
  ·simp [Array.getElem?_eq_none h'] at h1
 induction fuel with
 | zero =>
  intro listed a w _ hr hy hS H
  refine ⟨fun h => (by rw [h] at hr; cases hr), fun j hj => ⟨fun e => absurd (e ▸ hj) (hnotk _ hr), fun _ => ?_⟩⟩
  by_cases hji : j = i
  ·subst hji; exact hy.wpOp hi hS ⟨hS, H⟩
  ·have := ready_mono hj hji
   rw [H.1] at this
   cases this
 | succ fuel ih =>
  intro listed a w hfree hr hy hS H
  refine ⟨fun h => (by rw [h] at hr; cases hr), fun j hj => ⟨fun e => absurd (e ▸ hj) (hnotk _ hr), fun hjk0 => ?_⟩⟩
  by_cases hji : j = i
  ·subst hji; exact hy.wpOp hi hS ⟨hS, H⟩
  ·have h1 := (H.2 j (ready_mono hj hji)).2 hjk0
   obtain ⟨hjun, oj, hoj, hall⟩ := mem_ready.1 hj
   have hnot : ∀ e ∈ oj.after, Region.binds md e = true → e.on ≠ i := fun e he hb heq => by
    have h1 := hall e he hb
    have h0 := (mem_ready.1 hr).1
    rw [heq] at h1
    rcases Nat.lt_or_ge i listed.size with h' | h'
    ·simp [h'] at h0 h1; rw [h0] at h1; cases h1
    ·simp [Array.getElem?_eq_none h'] at h1
   have h2 := wpOp_putIf hoj (hfree j oj hoj hji hjun hnot) (fun cs b => hsel i oi cs b hi) (fun cs b => hsel j oj cs b hoj) hQ hy h1
   have hfree' : ∀ q oq, ops[q]? = some oq → q ≠ i → (listed.setIfInBounds j true).getD q true = false →
     (∀ e ∈ oq.after, Region.binds md e = true → e.on ≠ i) → oi.apart ops oq = true := fun q oq hq hqi hun hno => by
    refine hfree q oq hq hqi ?_ hno
    by_cases hjq : j = q
    ·subst hjq; exact hjun
    ·rw [getD_set_ne true hjq] at hun; exact hun
   refine wpOp_mono (fun a' w' h3 => ⟨h3.2.1, ih (listed.setIfInBounds j true) a' w' hfree' (ready_mono hr (Ne.symm hji)) h3.1 h3.2.1 ?_⟩) h2
   rw [Array.setIfInBounds_comm _ _ hji]
   exact h3.2.2
theorem wpAnyG_firstB {i : Nat} {oi : Oper} {v : Value} (hi : ops[i]? = some oi) (hsel : ∀ (j : Nat) (o : Oper) cs b, ops[j]? = some o → o.op ≠ .select cs b)
  (hQ : ∀ c a w, Q (.panic c) (a.put oi.dst v) w → Q (.panic c) a w) (hik : i ≠ k) :
  ∀ (fuel : Nat) (listed : Array Bool) (a : Act) (w : World),
   (∀ j oj, ops[j]? = some oj → j ≠ i → listed.getD j true = false → (∀ e ∈ oj.after, Region.binds md e = true → e.on ≠ i) → oi.apart ops oj = true) →
   i ∈ Region.ready md ops listed → YieldsIf P ops (fun _ => True) oi v a → S1 w →
   wpAnyG P md ops Q k S1 S fuel (listed.setIfInBounds i true) (a.put oi.dst v) w → wpAnyG P md ops Q k S1 S (fuel + 1) listed a w := by
 intro fuel
 induction fuel with
 | zero =>
  intro listed a w _ hr hy hS H
  refine ⟨fun h => (by rw [h] at hr; cases hr), fun j hj => ⟨fun e => ?_, fun _ => ?_⟩⟩
  ·have := ready_mono hj (e ▸ Ne.symm hik)
   rw [H.1] at this
   cases this
  ·by_cases hji : j = i
   ·subst hji; exact hy.wpOp hi trivial ⟨hS, H⟩
   ·have := ready_mono hj hji
    rw [H.1] at this
    cases this
 | succ fuel ih =>
  intro listed a w hfree hr hy hS H
  refine ⟨fun h => (by rw [h] at hr; cases hr), fun j hj => ?_⟩
  by_cases hji : j = i
  ·subst hji
   exact ⟨fun e => absurd e hik, fun _ => hy.wpOp hi trivial ⟨hS, H⟩⟩
  ·have h1 := H.2 j (ready_mono hj hji)
   obtain ⟨hjun, oj, hoj, hall⟩ := mem_ready.1 hj
   have hnot : ∀ e ∈ oj.after, Region.binds md e = true → e.on ≠ i := fun e he hb heq => by
    have h1 := hall e he hb
    have h0 := (mem_ready.1 hr).1
    rw [heq] at h1
    rcases Nat.lt_or_ge i listed.size with h' | h'
    ·simp [h'] at h0 h1; rw [h0] at h1; cases h1
    ·simp [Array.getElem?_eq_none h'] at h1
   have hfree' : ∀ q oq, ops[q]? = some oq → q ≠ i → (listed.setIfInBounds j true).getD q true = false →
     (∀ e ∈ oq.after, Region.binds md e = true → e.on ≠ i) → oi.apart ops oq = true := fun q oq hq hqi hun hno => by
    refine hfree q oq hq hqi ?_ hno
    by_cases hjq : j = q
    ·subst hjq; exact hjun
    ·rw [getD_set_ne true hjq] at hun; exact hun
   refine ⟨fun e => ?_, fun e => ?_⟩
   ·have h2 := wpOp_putIf hoj (hfree j oj hoj hji hjun hnot) (fun cs b => hsel i oi cs b hi) (fun cs b => hsel j oj cs b hoj) hQ hy (h1.1 e)
    refine wpOp_mono (fun a' w' h3 => ⟨h3.2.1, wpAnyH_first hi hsel hQ fuel (listed.setIfInBounds j true) a' w' hfree' (ready_mono hr (Ne.symm hji)) ?_ h3.2.1 ?_⟩) h2
    ·exact h3.1.imp (fun q => ⟨q.1, fun w _ => q.2 w trivial⟩) id
    ·rw [Array.setIfInBounds_comm _ _ hji]
     exact h3.2.2
   ·have h2 := wpOp_putIf hoj (hfree j oj hoj hji hjun hnot) (fun cs b => hsel i oi cs b hi) (fun cs b => hsel j oj cs b hoj) hQ hy (h1.2 e)
    refine wpOp_mono (fun a' w' h3 => ⟨h3.2.1, ih (listed.setIfInBounds j true) a' w' hfree' (ready_mono hr (Ne.symm hji)) h3.1 h3.2.1 ?_⟩) h2
    rw [Array.setIfInBounds_comm _ _ hji]
    exact h3.2.2
end
def WG (P : Program) (n : Nat) (ol : List Oper) (k : Nat) (S1 S : World → Prop) (fuel : Nat) (listed : List Bool) (K : Fr → World → Prop) (f : Fr) (w : World) : Prop :=
 ∀ (Q : Exit → Act → World → Prop) (a : Act), (∀ c a w, ¬ Q (.panic c) a w) → Good a n f → (∀ a' f' w', Good a' n f' → K f' w' → Q .normal a' w') → wpAnyG P .any ol.toArray Q k S1 S fuel listed.toArray a w
def waits (ol : List Oper) (k i : Nat) : Bool := match nthO ol k with
 | some o => o.after.toList.any (fun e => Region.binds .any e && Nat.beq e.on i) && !Nat.beq i k
 | none => false
section
variable {P : Program} {n : Nat} {ol : List Oper} {o : Oper} {K : Fr → World → Prop} {f : Fr} {w : World} {d : Nat} {v : Value} {S S1 : World → Prop} {fuel k : Nat} {listed : List Bool}
theorem WC.regionG {id : Nat} {l : List Oper} {Q : Kont} (k : Nat) (S S1 S2 : World → Prop) (hm : P.follows .mixedOrders = true)
  (_h0 : S { heap := w.heap, tape := w.tape, drawn := w.drawn + 1, os := w.os, output := w.output }) (_h1 : S1 { heap := w.heap, tape := w.tape, drawn := w.drawn + 1, os := w.os, output := w.output })
  (hS1 : S2 { heap := w.heap, tape := w.tape, drawn := w.drawn + 1, os := w.os, output := w.output })
  (h : ∀ w', S2 w' → WG P n l k S1 S l.length (List.replicate l.length false) (fun f w => Q .normal f w) f w') : WC P n (.region id l.toArray true) Q f w := fun a ha => by
 refine wp_region_noPanic (wp_region_any hm (wpAny_of_gate (k := k) (S1 := S1) (S := S) _ _ _ _ ?_))
 have e : (Array.replicate l.toArray.size false) = (List.replicate l.length false).toArray := by simp
 rw [e]
 have e2 : l.toArray.size = l.length := by simp
 rw [e2]
 exact h _ hS1 (NoPanic (qa n Q)) a (fun c a w hh => hh) ha (fun a' f' w' hg hk => ⟨f', hg, hk⟩)
theorem waits_dep {i : Nat} (h : waits ol k i = true) : ∃ ok, ol.toArray[k]? = some ok ∧ (∃ e ∈ ok.after, Region.binds .any e = true ∧ e.on = i) ∧ i ≠ k := by
 unfold waits at h
 split at h
 ·rename_i ok ho
  simp only [Bool.and_eq_true, List.any_eq_true, Bool.not_eq_true'] at h
  obtain ⟨⟨e, he, h1, h2⟩, h3⟩ := h
  refine ⟨ok, by rw [List.getElem?_toArray, ← nthO_eq]; exact ho, ⟨e, Array.mem_toList_iff.1 he, h1, Nat.eq_of_beq_eq_true h2⟩, ?_⟩
  rintro rfl
  rw [Nat.beq_refl] at h3; cases h3
 ·cases h
theorem WG.take (i : Nat) (hi : nthO ol i = some o) (hb : canTake ol listed i = true) (hkw : waits ol k i = true) (hw : want ol o f = some true) (hd : o.dst = some d) (hn : Nat.blt d n = true) (hS : S1 w) (hy : ∀ w, S1 w → Run P o f w (.value v) w)
  (kk : WG P n ol k S1 S fuel (setB listed i) K ((d, v) :: f) w) : WG P n ol k S1 S (fuel + 1) listed K f w := fun Q a hp ha hk => by
 simp only [canTake, Bool.and_eq_true] at hb
 have hi' : ol.toArray[i]? = some o := by rw [List.getElem?_toArray, ← nthO_eq]; exact hi
 obtain ⟨ok, h1, h2, h3⟩ := waits_dep hkw
 refine wpAnyG_first (v := v) hi' h1 h2 h3 (Region.noSelect_spec hb.1.1) (fun c a w hh => absurd hh (hp _ _ _)) fuel _ _ _ (Region.free_spec hi' hb.1.2) (by simpa using hb.2) (.inl ⟨want_eq ha hw, fun w hSw => hy w hSw a.eval fun x u hx => ha.ev hx⟩) hS ?_
 have := kk Q _ hp (ha.put hn v) hk
 rw [setB_eq] at this
 rw [hd]
 simpa using this
theorem WG.takeSkip (i : Nat) (hi : nthO ol i = some o) (hb : canTake ol listed i = true) (hkw : waits ol k i = true) (hw : want ol o f = some false) (hd : o.dst = some d) (hn : Nat.blt d n = true) (hS : S1 w)
  (kk : WG P n ol k S1 S fuel (setB listed i) K ((d, undef) :: f) w) : WG P n ol k S1 S (fuel + 1) listed K f w := fun Q a hp ha hk => by
 simp only [canTake, Bool.and_eq_true] at hb
 have hi' : ol.toArray[i]? = some o := by rw [List.getElem?_toArray, ← nthO_eq]; exact hi
 obtain ⟨ok, h1, h2, h3⟩ := waits_dep hkw
 refine wpAnyG_first (v := undef) hi' h1 h2 h3 (Region.noSelect_spec hb.1.1) (fun c a w hh => absurd hh (hp _ _ _)) fuel _ _ _ (Region.free_spec hi' hb.1.2) (by simpa using hb.2) (.inr ⟨want_eq ha hw, rfl⟩) hS ?_
 have := kk Q _ hp (ha.put hn undef) hk
 rw [setB_eq] at this
 rw [hd]
 simpa using this
theorem WG.takeB (i : Nat) (hi : nthO ol i = some o) (hb : canTake ol listed i = true) (hik : Nat.beq i k = false) (hw : want ol o f = some true) (hd : o.dst = some d) (hn : Nat.blt d n = true) (hS : S1 w) (hy : ∀ w, Run P o f w (.value v) w)
  (kk : WG P n ol k S1 S fuel (setB listed i) K ((d, v) :: f) w) : WG P n ol k S1 S (fuel + 1) listed K f w := fun Q a hp ha hk => by
 simp only [canTake, Bool.and_eq_true] at hb
 have hi' : ol.toArray[i]? = some o := by rw [List.getElem?_toArray, ← nthO_eq]; exact hi
 refine wpAnyG_firstB (v := v) hi' (Region.noSelect_spec hb.1.1) (fun c a w hh => absurd hh (hp _ _ _)) (by rintro rfl; rw [Nat.beq_refl] at hik; cases hik) fuel _ _ _ (Region.free_spec hi' hb.1.2) (by simpa using hb.2) (.inl ⟨want_eq ha hw, fun w _ => hy w a.eval fun x u hx => ha.ev hx⟩) hS ?_
 have := kk Q _ hp (ha.put hn v) hk
 rw [setB_eq] at this
 rw [hd]
 simpa using this
def WGs (P : Program) (n : Nat) (ol : List Oper) (k : Nat) (S1 S : World → Prop) (fuel : Nat) (listed : List Bool) (K : Fr → World → Prop) (f : Fr) (w : World) (rs : List Nat) : Prop :=
 ∀ i, i ∈ rs → ∃ o, nthO ol i = some o ∧ ((i = k ∧ WL P n ol [o] (fun f' w' => S w' ∧ WH P n ol S fuel (setB listed i) K f' w') f w) ∨ (i ≠ k ∧ WL P n ol [o] (fun f' w' => S1 w' ∧ WG P n ol k S1 S fuel (setB listed i) K f' w') f w))
theorem WGs.nil : WGs P n ol k S1 S fuel listed K f w [] := fun _ h => by cases h
theorem WGs.cons {i : Nat} {rs : List Nat} (hi : nthO ol i = some o) (hne : Nat.beq i k = false) (h : WL P n ol [o] (fun f' w' => S1 w' ∧ WG P n ol k S1 S fuel (setB listed i) K f' w') f w) (hr : WGs P n ol k S1 S fuel listed K f w rs) : WGs P n ol k S1 S fuel listed K f w (i :: rs) := fun j hj => by
 rcases List.mem_cons.1 hj with rfl | hj
 ·exact ⟨o, hi, .inr ⟨(by rintro rfl; rw [Nat.beq_refl] at hne; cases hne), h⟩⟩
 ·exact hr j hj
theorem WGs.consK {rs : List Nat} (hi : nthO ol k = some o) (h : WL P n ol [o] (fun f' w' => S w' ∧ WH P n ol S fuel (setB listed k) K f' w') f w) (hr : WGs P n ol k S1 S fuel listed K f w rs) : WGs P n ol k S1 S fuel listed K f w (k :: rs) := fun j hj => by
 rcases List.mem_cons.1 hj with rfl | hj
 ·exact ⟨o, hi, .inl ⟨rfl, h⟩⟩
 ·exact hr j hj
theorem wpOp_one {K1 : Act → World → Prop} {Q : Exit → Act → World → Prop} {a : Act} {i : Nat} (hi' : ol.toArray[i]? = some o) (h1 : wpList P ol.toArray (Exit.then K1 Q) [o] a w) : wpOp P ol.toArray Q i K1 a w := by
 unfold wpOp
 rw [hi']
 show if Region.wanted o (yielded ol.toArray a.tmps) = true then _ else _
 unfold wpList at h1
 split
 ·rename_i hwd
  rw [if_pos hwd] at h1
  exact wp_then h1
 ·rename_i hwd
  rw [if_neg hwd] at h1
  exact h1
theorem WG.all (rs : List Nat) (hr : Region.ready .any ol.toArray listed.toArray = rs) (hne : rs.isEmpty = false) (h : WGs P n ol k S1 S fuel listed K f w rs) : WG P n ol k S1 S (fuel + 1) listed K f w := fun Q a hp ha hk => by
 refine ⟨fun h0 => ?_, fun i hi => ?_⟩
 ·rw [hr] at h0; subst h0; cases hne
 ·rw [hr] at hi
  obtain ⟨o, ho, hw⟩ := h i hi
  have hi' : ol.toArray[i]? = some o := by rw [List.getElem?_toArray, ← nthO_eq]; exact ho
  rcases hw with ⟨e, hw⟩ | ⟨e, hw⟩
  ·refine ⟨fun _ => ?_, fun e2 => absurd e e2⟩
   refine wpOp_one hi' (hw (Exit.then (fun a' w' => S w' ∧ wpAnyH P .any ol.toArray Q S fuel (listed.toArray.setIfInBounds i true) a' w') Q) a ha (fun a' f' w' hg hh => ⟨hh.1, by
    have := hh.2 Q a' hp hg hk
    rw [setB_eq] at this
    simpa using this⟩))
  ·refine ⟨fun e2 => absurd e2 e, fun _ => ?_⟩
   refine wpOp_one hi' (hw (Exit.then (fun a' w' => S1 w' ∧ wpAnyG P .any ol.toArray Q k S1 S fuel (listed.toArray.setIfInBounds i true) a' w') Q) a ha (fun a' f' w' hg hh => ⟨hh.1, by
    have := hh.2 Q a' hp hg hk
    rw [setB_eq] at this
    simpa using this⟩))
theorem WG.split {g : Bool} (s : Nat) (_hs : lk f s = some (.bool g)) (hT : g = true → WG P n ol k S1 S fuel listed K f w) (hF : g = false → WG P n ol k S1 S fuel listed K f w) : WG P n ol k S1 S fuel listed K f w := by
 cases h : g
 ·exact hF h
 ·exact hT h
theorem WG.strS {w0 : World} {T : List Nat} {L : Hp} (_hs : St w0 T L w) (hi : ∀ w', St w0 T L w' → S1 w') (h : WG P n ol k (fun w' => St w0 T L w') S fuel listed K f w) : WG P n ol k S1 S fuel listed K f w := fun Q a hp ha hk => by
 have key : ∀ (fuel : Nat) (listed : Array Bool) (a : Act) (w : World), wpAnyG P .any ol.toArray Q k (fun w' => St w0 T L w') S fuel listed a w → wpAnyG P .any ol.toArray Q k S1 S fuel listed a w := by
  intro fuel
  induction fuel with
  | zero => intro listed a w h; exact h
  | succ fuel ih => intro listed a w h; exact ⟨h.1, fun i hi' => ⟨(h.2 i hi').1, fun e => wpOp_mono (fun a' w' h' => ⟨hi _ h'.1, ih _ _ _ h'.2⟩) ((h.2 i hi').2 e)⟩⟩
 exact key _ _ _ _ (h Q a hp ha hk)
end
def Closed (ops : Array Oper) (listed : Array Bool) : Prop := ∀ m o, ops[m]? = some o → listed.getD m false = true → ∀ e ∈ o.after, Region.binds .any e = true → listed.getD e.on false = true
def needsB (ol : List Oper) : Nat → Nat → Nat → Bool
 | 0, _, _ => false
 | fuel + 1, k, i => match nthO ol k with
  | some o => o.after.toList.any fun e => Region.binds .any e && (Nat.beq e.on i || needsB ol fuel e.on i)
  | none => false
def closedB (ol : List Oper) (listed : List Bool) : Bool := (List.range ol.length).all fun m => !(listed.toArray.getD m false) || match nthO ol m with
 | some o => o.after.toList.all fun e => !Region.binds .any e || listed.toArray.getD e.on false
 | none => true
def takesT (ol : List Oper) (listed : List Bool) (k i : Nat) : Bool := canTake ol listed i && (needsB ol ol.length k i && (closedB ol listed && !Nat.beq i k))
section
variable {P : Program} {Q : Exit → Act → World → Prop} {S S1 : World → Prop} {k : Nat} {ol : List Oper}
theorem nth_arr {m : Nat} {o : Oper} : ol.toArray[m]? = some o ↔ nthO ol m = some o := by rw [List.getElem?_toArray, ← nthO_eq]
theorem closed_of {listed : List Bool} (h : closedB ol listed = true) : Closed ol.toArray listed.toArray := fun m o ho hl e he hb => by
 unfold closedB at h
 rw [List.all_eq_true] at h
 have hm : m < ol.length := by
  have := (Array.getElem?_eq_some_iff.1 ho).1
  simpa using this
 have h1 := h m (List.mem_range.2 hm)
 rw [hl, nth_arr.1 ho] at h1
 simp only [Bool.not_true, Bool.false_or, List.all_eq_true] at h1
 have h2 := h1 e (Array.mem_toList_iff.2 he)
 rw [hb] at h2
 simpa using h2
theorem needs_listed {listed : Array Bool} (hc : Closed ol.toArray listed) {i : Nat} : ∀ (fuel x : Nat), (∀ o, nthO ol x = some o → ∀ e ∈ o.after, Region.binds .any e = true → listed.getD e.on false = true) → needsB ol fuel x i = true → listed.getD i false = true
 | 0, _, _, h => by cases h
 | fuel + 1, x, hx, h => by
  unfold needsB at h
  split at h
  ·rename_i o ho
   rw [List.any_eq_true] at h
   obtain ⟨e, he, h1⟩ := h
   rw [Bool.and_eq_true, Bool.or_eq_true] at h1
   have h2 := hx o ho e (Array.mem_toList_iff.1 he) h1.1
   rcases h1.2 with h3 | h3
   ·rw [Nat.eq_of_beq_eq_true h3] at h2; exact h2
   ·exact needs_listed hc fuel e.on (fun o' ho' => hc e.on o' (nth_arr.2 ho') h2) h3
  ·cases h
theorem Closed.set {ops : Array Oper} {listed : Array Bool} (hc : Closed ops listed) {j : Nat} (hj : j ∈ Region.ready .any ops listed) : Closed ops (listed.setIfInBounds j true) := fun m o ho hl e he hb => by
 obtain ⟨_, oj, hoj, hall⟩ := mem_ready.1 hj
 by_cases hm : m = j
 ·subst hm
  rw [hoj] at ho; cases ho
  exact getD_set_true (hall e he hb)
 ·have h1 : listed.getD m false = true := by
   rwa [getD_set_ne false (Ne.symm hm)] at hl
  exact getD_set_true (hc m o ho h1 e he hb)
theorem wpAnyG_firstT {i : Nat} {oi : Oper} {v : Value} (hi : ol.toArray[i]? = some oi) (hneed : needsB ol ol.length k i = true) (hik : i ≠ k) (hsel : ∀ (j : Nat) (o : Oper) cs b, ol.toArray[j]? = some o → o.op ≠ .select cs b)
  (hQ : ∀ c a w, Q (.panic c) (a.put oi.dst v) w → Q (.panic c) a w) :
  ∀ (fuel : Nat) (listed : Array Bool) (a : Act) (w : World), Closed ol.toArray listed →
   (∀ j oj, ol.toArray[j]? = some oj → j ≠ i → listed.getD j true = false → (∀ e ∈ oj.after, Region.binds .any e = true → e.on ≠ i) → oi.apart ol.toArray oj = true) →
   i ∈ Region.ready .any ol.toArray listed → YieldsIf P ol.toArray S1 oi v a → S1 w →
   wpAnyG P .any ol.toArray Q k S1 S fuel (listed.setIfInBounds i true) (a.put oi.dst v) w → wpAnyG P .any ol.toArray Q k S1 S (fuel + 1) listed a w := by
 intro fuel
 have hnotk : ∀ (listed : Array Bool), Closed ol.toArray listed → i ∈ Region.ready .any ol.toArray listed → k ∉ Region.ready .any ol.toArray listed := by
  intro listed hc hr hk
  obtain ⟨_, o', ho', hall⟩ := mem_ready.1 hk
  have h1 := needs_listed hc (i := i) ol.length k (fun o ho e he hb => by
   rw [nth_arr.2 ho] at ho'; cases ho'
   exact hall e he hb) hneed
  have h0 := (mem_ready.1 hr).1
  rcases Nat.lt_or_ge i listed.size with h' | h'
  ·simp [h'] at h0 h1; rw [h0] at h1; cases h1
  ·simp [Array.getElem?_eq_none h'] at h1
 induction fuel with
 | zero =>
  intro listed a w hcl _ hr hy hS H
  refine ⟨fun h => (by rw [h] at hr; cases hr), fun j hj => ⟨fun e => absurd (e ▸ hj) (hnotk _ hcl hr), fun _ => ?_⟩⟩
  by_cases hji : j = i
  ·subst hji; exact hy.wpOp hi hS ⟨hS, H⟩
  ·have := ready_mono hj hji
   rw [H.1] at this
   cases this
 | succ fuel ih =>
  intro listed a w hcl hfree hr hy hS H
  refine ⟨fun h => (by rw [h] at hr; cases hr), fun j hj => ⟨fun e => absurd (e ▸ hj) (hnotk _ hcl hr), fun hjk0 => ?_⟩⟩
  by_cases hji : j = i
  ·subst hji; exact hy.wpOp hi hS ⟨hS, H⟩
  ·have h1 := (H.2 j (ready_mono hj hji)).2 hjk0
   obtain ⟨hjun, oj, hoj, hall⟩ := mem_ready.1 hj
   have hnot : ∀ e ∈ oj.after, Region.binds .any e = true → e.on ≠ i := fun e he hb heq => by
    have h1 := hall e he hb
    have h0 := (mem_ready.1 hr).1
    rw [heq] at h1
    rcases Nat.lt_or_ge i listed.size with h' | h'
    ·simp [h'] at h0 h1; rw [h0] at h1; cases h1
    ·simp [Array.getElem?_eq_none h'] at h1
   have h2 := wpOp_putIf hoj (hfree j oj hoj hji hjun hnot) (fun cs b => hsel i oi cs b hi) (fun cs b => hsel j oj cs b hoj) hQ hy h1
   have hfree' : ∀ q oq, ol.toArray[q]? = some oq → q ≠ i → (listed.setIfInBounds j true).getD q true = false →
     (∀ e ∈ oq.after, Region.binds .any e = true → e.on ≠ i) → oi.apart ol.toArray oq = true := fun q oq hq hqi hun hno => by
    refine hfree q oq hq hqi ?_ hno
    by_cases hjq : j = q
    ·subst hjq; exact hjun
    ·rw [getD_set_ne true hjq] at hun; exact hun
   refine wpOp_mono (fun a' w' h3 => ⟨h3.2.1, ih (listed.setIfInBounds j true) a' w' (hcl.set hj) hfree' (ready_mono hr (Ne.symm hji)) h3.1 h3.2.1 ?_⟩) h2
   rw [Array.setIfInBounds_comm _ _ hji]
   exact h3.2.2
end
section
variable {P : Program} {n : Nat} {ol : List Oper} {o : Oper} {K : Fr → World → Prop} {f : Fr} {w : World} {d : Nat} {v : Value} {S S1 : World → Prop} {fuel k : Nat} {listed : List Bool}
theorem WG.tk (i : Nat) (hi : nthO ol i = some o) (hb : takesT ol listed k i = true) (hw : want ol o f = some true) (hd : o.dst = some d) (hn : Nat.blt d n = true) (hS : S1 w) (hy : ∀ w, S1 w → Run P o f w (.value v) w)
  (kk : WG P n ol k S1 S fuel (setB listed i) K ((d, v) :: f) w) : WG P n ol k S1 S (fuel + 1) listed K f w := fun Q a hp ha hk => by
 simp only [takesT, canTake, Bool.and_eq_true] at hb
 have hi' : ol.toArray[i]? = some o := nth_arr.2 hi
 refine wpAnyG_firstT (v := v) hi' hb.2.1 (by rintro rfl; have h9 := hb.2.2.2; rw [Nat.beq_refl] at h9; cases h9) (Region.noSelect_spec hb.1.1.1) (fun c a w hh => absurd hh (hp _ _ _)) fuel _ _ _ (closed_of hb.2.2.1) (Region.free_spec hi' hb.1.1.2) (by simpa using hb.1.2) (.inl ⟨want_eq ha hw, fun w hSw => hy w hSw a.eval fun x u hx => ha.ev hx⟩) hS ?_
 have := kk Q _ hp (ha.put hn v) hk
 rw [setB_eq] at this
 rw [hd]
 simpa using this
end
theorem WC.mergeK {P : Program} {n : Nat} {c : Code} {K : Fr → World → Prop} {Q : Kont} {f0 : Fr} {w0 w1 : World} {T : List Nat} {L : Hp} (F : Fr) (d : Nat) (v : Value) (hs0 : St w0 T L w1) (hF : Sub F f0) (h1 : ∀ f w, Sub ((d, v) :: F) f → St w0 T L w → K f w)
  (h2 : (∀ f w, Sub ((d, v) :: F) f → St w0 T L w → K f w) → WC P n c (thenK K Q) f0 w1) : WC P n c (thenK K Q) f0 w1 := h2 h1
class TbOk (P : Program) (tb : outParam TT) : Prop where
 ok : tb.Ok P
class Mx (P : Program) : Prop where
 ok : P.follows .mixedOrders = true
section
variable {P : Program} {tb : TT} {w0 w : World} {T : List Nat} {L : Hp} {n : Nat} {ol : List Oper} {act : List (Nat × Bool)} {K : Fr → World → Prop} {KQ : Fr → Prop} {C : World → Prop}
theorem WL.r [t : TbOk P tb] (m : Nat) (hst : St w0 T L w) (h : List Nat) {l l' : List Oper} {f f' : Fr} {S : Prop} (hr : runs tb n ol L [] m l f h True = some (l', f', S)) (k : WL P n ol l' K f' w) (hS : S := by repeat (first | exact trivial | refine ⟨by first | exact rfl | omega | exact u8_in _ | (constructor <;> omega), ?_⟩)) : WL P n ol l K f w := WL.run t.ok m hst h hr hS k
theorem WQ.r [t : TbOk P tb] (m : Nat) (h : List Nat) {l l' : List Oper} {f f' : Fr} {S : Prop} (hr : runs tb n ol L [] m l f h True = some (l', f', S)) (k : WQ P n ol l' (fun w' => St w0 T L w') KQ f') (hS : S := by repeat (first | exact trivial | refine ⟨by first | exact rfl | omega | exact u8_in _ | (constructor <;> omega), ?_⟩)) : WQ P n ol l (fun w' => St w0 T L w') KQ f := WQ.run t.ok m h hr hS k
theorem WC.r1 [t : TbOk P tb] {id : Nat} {l : List Oper} {y : Code} {Q : Kont} {f f' : Fr} {S : Prop} (hst : St w0 T L w) (h : List Nat) (hr : runs tb n l L [] l.length l f h True = some ([], f', S)) (k : WC P n y Q f' w) (hS : S := by repeat (first | exact trivial | refine ⟨by first | exact rfl | omega | exact u8_in _ | (constructor <;> omega), ?_⟩)) : WC P n (.seq (.region id l.toArray false) y) Q f w := WC.rr t.ok hst h hr hS k
theorem WC.q1 [t : TbOk P tb] [m : Mx P] {id : Nat} {l : List Oper} {y : Code} {Q : Kont} {f f' : Fr} {S : Prop} (hst : St w0 T L w) (h : List Nat) (hr : runs tb n l L [] l.length l f h True = some ([], f', S)) (k : ∀ w', St w0 T L w' → WC P n y Q f' w') (hl : Region.lexB .any l.toArray = true := by kernel_rfl) (hS : S := by repeat (first | exact trivial | refine ⟨by first | exact rfl | omega | exact u8_in _ | (constructor <;> omega), ?_⟩)) : WC P n (.seq (.region id l.toArray true) y) Q f w := WC.rq t.ok hst m.ok hl h hr hS k
theorem WC.sq1 [m : Mx P] {id : Nat} {l : List Oper} {y : Code} {Q : Kont} {f : Fr} (hst : St w0 T L w) (h : WQ P n l l (fun w' => St w0 T L w') (fun f' => ∀ w', St w0 T L w' → WC P n y Q f' w') f) (hl : Region.lexB .any l.toArray = true := by kernel_rfl) : WC P n (.seq (.region id l.toArray true) y) Q f w := WC.sq hst m.ok hl h
end
def hruns (tb : TT) (n : Nat) (ol : List Oper) (L : Hp) (act : List (Nat × Bool)) : List Nat → Fr → List Nat → Prop → Option (Fr × Prop)
 | [], f, _, S => some (f, S)
 | i :: is, f, h, S => match nthO ol i with
  | some o => (match o.dst with
   | some d => bif wantA ol act o f && Nat.blt d n && frB act f d then sv tb L o.op f h S fun v h' S' => hruns tb n ol L act is ((d, v) :: f) h' S' else none
   | none => none)
  | none => none
def setBs : List Bool → List Nat → List Bool
 | l, [] => l
 | l, i :: r => setBs (setB l i) r
def fuelB : Nat → List Nat → Option Nat
 | m, [] => some m
 | m + 1, _ :: r => fuelB m r
 | 0, _ :: _ => none
def looks (ol : List Oper) (i : Nat) : Bool := match nthO ol i with
 | some o => (match o.op with
  | .load _ _ => true
  | _ => false)
 | none => true
def takesH (ol : List Oper) : List Bool → List Nat → Bool
 | _, [] => true
 | l, i :: r => canTake ol l i && takesH ol (setB l i) r
def takesG (ol : List Oper) (k : Nat) : List Bool → List Nat → Bool
 | _, [] => true
 | l, i :: r => (takesT ol l k i || (canTake ol l i && (!Nat.beq i k && !looks ol i))) && takesG ol k (setB l i) r
theorem sv_look {β : Type} {tb : TT} {L : Hp} {op : Op} {f : Fr} {h : List Nat} {S : Prop} {k : Value → List Nat → Prop → Option β} (hn : ∀ t x, op ≠ .load t x) : sv tb L op f h S k = sv tb [] op f h S k := by
 cases op <;> first | rfl | exact absurd rfl (hn _ _)
theorem looks_no {ol : List Oper} {i : Nat} {o : Oper} (hi : nthO ol i = some o) (h : looks ol i = false) (t : TypeId) (x : Operand) : o.op ≠ .load t x := fun e => by
 unfold looks at h
 rw [hi] at h
 simp only [e] at h
 cases h
section
variable {P : Program} {tb : TT} {w0 w : World} {T : List Nat} {L : Hp} {n : Nat} {ol : List Oper} {act : List (Nat × Bool)} {K : Fr → World → Prop} {S0 : World → Prop} {k : Nat}
theorem hruns_ok (htb : tb.Ok P) : ∀ {is : List Nat} {listed : List Bool} {F fuel : Nat} {f f' : Fr} {h : List Nat} {S S' : Prop}, Acts ol act f → hruns tb n ol L act is f h S = some (f', S') → fuelB F is = some fuel → S' →
  S ∧ (takesH ol listed is = true → ∀ w, St w0 T L w → WH P n ol (fun w' => St w0 T L w') fuel (setBs listed is) K f' w → WH P n ol (fun w' => St w0 T L w') F listed K f w)
   ∧ (takesG ol k listed is = true → ∀ w, St w0 T L w → WG P n ol k (fun w' => St w0 T L w') S0 fuel (setBs listed is) K f' w → WG P n ol k (fun w' => St w0 T L w') S0 F listed K f w)
 | [], listed, F, fuel, f, f', h, S, S', ha, hr, hf, hS => by
  simp only [hruns, Option.some.injEq, Prod.mk.injEq] at hr
  obtain ⟨rfl, rfl⟩ := hr
  have : F = fuel := by cases F <;> simpa [fuelB] using hf
  subst this
  exact ⟨hS, fun _ _ _ => id, fun _ _ _ => id⟩
 | i :: is, listed, 0, fuel, f, f', h, S, S', ha, hr, hf, hS => by cases hf
 | i :: is, listed, F + 1, fuel, f, f', h, S, S', ha, hr, hf, hS => by
  unfold hruns at hr
  split at hr
  ·rename_i o hi
   split at hr
   ·rename_i d hd
    cases hc : (wantA ol act o f && Nat.blt d n && frB act f d) with
    | false => rw [hc] at hr; cases hr
    | true =>
     rw [hc] at hr
     dsimp only [cond_true] at hr
     simp only [Bool.and_eq_true] at hc
     have hw := wantA_ok ha hc.1.1
     obtain ⟨v, h', S1, hk, hv⟩ := sv_ok htb hr
     obtain ⟨h1, h2, h3⟩ := hruns_ok (listed := setB listed i) htb (frB_ok ha hc.2) hk hf hS
     obtain ⟨h5, h6⟩ := hv h1
     have hy : ∀ w, St w0 T L w → Run P o f w (.value v) w := fun w hst => h6 w (fun p hp => (hst.own p hp).1) o rfl
     refine ⟨h5, fun ht w hst kk => ?_, fun ht w hst kk => ?_⟩
     ·simp only [takesH, Bool.and_eq_true] at ht
      exact WH.take i hi ht.1 hw hd hc.1.2 hst hy (h2 ht.2 w hst kk)
     ·simp only [takesG, Bool.and_eq_true, Bool.or_eq_true, Bool.not_eq_true'] at ht
      rcases ht.1 with ht1 | ⟨ht1, ht2, ht3⟩
      ·exact WG.tk i hi ht1 hw hd hc.1.2 hst hy (h3 ht.2 w hst kk)
      ·rw [sv_look (looks_no hi ht3)] at hr
       obtain ⟨v', h'', S2, hk', hv'⟩ := sv_ok htb hr
       obtain ⟨g1, g2, g3⟩ := hruns_ok (listed := setB listed i) htb (frB_ok ha hc.2) hk' hf hS
       obtain ⟨g5, g6⟩ := hv' g1
       exact WG.takeB i hi ht1 ht2 hw hd hc.1.2 hst (fun w => g6 w (fun p hp => by cases hp) o rfl) (g3 ht.2 w hst kk)
   ·cases hr
  ·cases hr
theorem WH.rn [t : TbOk P tb] (is : List Nat) (hst : St w0 T L w) (h : List Nat) {listed : List Bool} {F fuel : Nat} {f f' : Fr} {S : Prop} (hr : hruns tb n ol L [] is f h True = some (f', S)) (hf : fuelB F is = some fuel) (kk : WH P n ol (fun w' => St w0 T L w') fuel (setBs listed is) K f' w) (hb : takesH ol listed is = true := by kernel_rfl)
  (hS : S := by repeat (first | exact trivial | refine ⟨by first | exact rfl | omega | exact u8_in _ | (constructor <;> omega), ?_⟩)) : WH P n ol (fun w' => St w0 T L w') F listed K f w :=
 (hruns_ok (k := 0) (S0 := fun _ => True) t.ok Acts.nil hr hf hS).2.1 hb w hst kk
theorem WH.rnA [t : TbOk P tb] {f : Fr} (ha : Acts ol act f) (is : List Nat) (hst : St w0 T L w) (h : List Nat) {listed : List Bool} {F fuel : Nat} {f' : Fr} {S : Prop} (hr : hruns tb n ol L act is f h True = some (f', S)) (hf : fuelB F is = some fuel) (kk : WH P n ol (fun w' => St w0 T L w') fuel (setBs listed is) K f' w) (hb : takesH ol listed is = true := by kernel_rfl)
  (hS : S := by repeat (first | exact trivial | refine ⟨by first | exact rfl | omega | exact u8_in _ | (constructor <;> omega), ?_⟩)) : WH P n ol (fun w' => St w0 T L w') F listed K f w :=
 (hruns_ok (k := 0) (S0 := fun _ => True) t.ok ha hr hf hS).2.1 hb w hst kk
theorem WG.rn [t : TbOk P tb] (is : List Nat) (hst : St w0 T L w) (h : List Nat) {listed : List Bool} {F fuel : Nat} {f f' : Fr} {S : Prop} (hr : hruns tb n ol L [] is f h True = some (f', S)) (hf : fuelB F is = some fuel) (kk : WG P n ol k (fun w' => St w0 T L w') S0 fuel (setBs listed is) K f' w) (hb : takesG ol k listed is = true := by kernel_rfl)
  (hS : S := by repeat (first | exact trivial | refine ⟨by first | exact rfl | omega | exact u8_in _ | (constructor <;> omega), ?_⟩)) : WG P n ol k (fun w' => St w0 T L w') S0 F listed K f w :=
 (hruns_ok (k := k) (S0 := S0) t.ok Acts.nil hr hf hS).2.2 hb w hst kk
theorem WG.rnA [t : TbOk P tb] {f : Fr} (ha : Acts ol act f) (is : List Nat) (hst : St w0 T L w) (h : List Nat) {listed : List Bool} {F fuel : Nat} {f' : Fr} {S : Prop} (hr : hruns tb n ol L act is f h True = some (f', S)) (hf : fuelB F is = some fuel) (kk : WG P n ol k (fun w' => St w0 T L w') S0 fuel (setBs listed is) K f' w) (hb : takesG ol k listed is = true := by kernel_rfl)
  (hS : S := by repeat (first | exact trivial | refine ⟨by first | exact rfl | omega | exact u8_in _ | (constructor <;> omega), ?_⟩)) : WG P n ol k (fun w' => St w0 T L w') S0 F listed K f w :=
 (hruns_ok (k := k) (S0 := S0) t.ok ha hr hf hS).2.2 hb w hst kk
end
section
variable {P : Program} {n : Nat} {ol : List Oper} {o : Oper} {K : Fr → World → Prop} {f : Fr} {w : World} {S S1 : World → Prop} {fuel k : Nat} {listed : List Bool}
theorem WH.o1 (i : Nat) (hi : nthO ol i = some o) (h : WL P n ol [o] (fun f' w' => S w' ∧ WH P n ol S fuel (setB listed i) K f' w') f w) (hr : Region.ready .any ol.toArray listed.toArray = [i] := by kernel_rfl) : WH P n ol S (fuel + 1) listed K f w := WH.all [i] hr rfl (WHs.cons hi h WHs.nil)
theorem WG.o1 (i : Nat) (hi : nthO ol i = some o) (hn : Nat.beq i k = false) (h : WL P n ol [o] (fun f' w' => S1 w' ∧ WG P n ol k S1 S fuel (setB listed i) K f' w') f w) (hr : Region.ready .any ol.toArray listed.toArray = [i] := by kernel_rfl) : WG P n ol k S1 S (fuel + 1) listed K f w := WG.all [i] hr rfl (WGs.cons hi hn h WGs.nil)
theorem WG.oK (hi : nthO ol k = some o) (h : WL P n ol [o] (fun f' w' => S w' ∧ WH P n ol S fuel (setB listed k) K f' w') f w) (hr : Region.ready .any ol.toArray listed.toArray = [k] := by kernel_rfl) : WG P n ol k S1 S (fuel + 1) listed K f w := WG.all [k] hr rfl (WGs.consK hi h WGs.nil)
theorem WH.dn (h : K f w) (hr : Region.ready .any ol.toArray listed.toArray = [] := by kernel_rfl) : WH P n ol S fuel listed K f w := WH.done hr h
theorem WL.n2 (h1 : S w) (h2 : WH P n ol S1 fuel listed K f w) : WL P n ol [] (fun f' w' => S w' ∧ WH P n ol S1 fuel listed K f' w') f w := WL.nil ⟨h1, h2⟩
end
section
variable {P : Program} {n : Nat} {w0 w : World} {T : List Nat} {L L0 L1 : Hp} {f : Fr}
theorem WC.rH [m : Mx P] {id : Nat} {l : List Oper} {Q : Kont} (h0 : St w0 T L0 w) (h1 : St w0 T L w) (h : ∀ w', St w0 T L w' → WH P n l (fun w' => St w0 T L0 w') l.length (List.replicate l.length false) (fun f w => Q .normal f w) f w') : WC P n (.region id l.toArray true) Q f w := WC.regionH2 _ _ m.ok h0.drew h1.drew h
theorem WC.rG [m : Mx P] {id : Nat} {l : List Oper} {Q : Kont} (k : Nat) (h0 : St w0 T L0 w) (h1 : St w0 T L1 w) (h2 : St w0 T L w) (h : ∀ w', St w0 T L w' → WG P n l k (fun w' => St w0 T L1 w') (fun w' => St w0 T L0 w') l.length (List.replicate l.length false) (fun f w => Q .normal f w) f w') : WC P n (.region id l.toArray true) Q f w := WC.regionG k _ _ _ m.ok h0.drew h1.drew h2.drew h
end
class Fr1 (X L : Hp) (R : outParam Hp) : Prop where
 pf : (X ++ R).Perm L
theorem fr1_mid {X A R L : Hp} (h : (X ++ R).Perm L) : (X ++ (A ++ R)).Perm (A ++ L) := perm_front h
instance (priority := low) fr1End {X : Hp} : Fr1 X X [] := ⟨by rw [List.append_nil]⟩
instance fr1App {X L R A : Hp} [h : Fr1 X L R] : Fr1 X (A ++ L) (A ++ R) := ⟨fr1_mid h.pf⟩
instance fr1Cons {X L R : Hp} {p : Nat × Obj} [h : Fr1 X L R] : Fr1 X (p :: L) (p :: R) := ⟨fr1_mid (A := [p]) h.pf⟩
instance (priority := high) fr1Nil {L : Hp} : Fr1 [] L L := ⟨List.Perm.refl _⟩
instance (priority := high) fr1Here {X R : Hp} : Fr1 X (X ++ R) R := ⟨List.Perm.refl _⟩
instance fr1App' {X L R A : Hp} [h : Fr1 X L R] : Fr1 X (A.append L) (A ++ R) := ⟨fr1_mid h.pf⟩
instance (priority := high) fr1Here' {X R : Hp} : Fr1 X (X.append R) R := ⟨List.Perm.refl _⟩
class FrB (b : Nat) (L : Hp) (o : outParam Obj) (R : outParam Hp) : Prop where
 pf : ((b, o) :: R).Perm L
instance frbApp {b : Nat} {o : Obj} {L R A : Hp} [h : FrB b L o R] : FrB b (A ++ L) o (A ++ R) := ⟨fr1_mid (X := [(b, o)]) h.pf⟩
instance frbCons {b : Nat} {o : Obj} {L R : Hp} {p : Nat × Obj} [h : FrB b L o R] : FrB b (p :: L) o (p :: R) := ⟨fr1_mid (X := [(b, o)]) (A := [p]) h.pf⟩
instance frbApp' {b : Nat} {o : Obj} {L R A : Hp} [h : FrB b L o R] : FrB b (A.append L) o (A ++ R) := ⟨fr1_mid (X := [(b, o)]) h.pf⟩
instance frbIn {b : Nat} {o : Obj} {L R A : Hp} {p : Nat × Obj} [h : FrB b (A ++ L) o R] : FrB b ((p :: A) ++ L) o (p :: R) := ⟨fr1_mid (X := [(b, o)]) (A := [p]) h.pf⟩
instance frbIn' {b : Nat} {o : Obj} {L R A : Hp} {p : Nat × Obj} [h : FrB b (A.append L) o R] : FrB b (List.append (p :: A) L) o (p :: R) := ⟨fr1_mid (X := [(b, o)]) (A := [p]) h.pf⟩
instance (priority := high) frbHd {b : Nat} {o : Obj} {R A : Hp} : FrB b (((b, o) :: A) ++ R) o (A ++ R) := ⟨List.Perm.refl _⟩
instance (priority := high) frbHd' {b : Nat} {o : Obj} {R A : Hp} : FrB b (List.append ((b, o) :: A) R) o (A ++ R) := ⟨List.Perm.refl _⟩
instance (priority := high) frbOne' {b : Nat} {o : Obj} {R : Hp} : FrB b (List.append [(b, o)] R) o R := ⟨List.Perm.refl _⟩
instance (priority := high) frbOne {b : Nat} {o : Obj} {R : Hp} : FrB b ([(b, o)] ++ R) o R := ⟨List.Perm.refl _⟩
instance (priority := high) frbHere {b : Nat} {o : Obj} {R : Hp} : FrB b ((b, o) :: R) o R := ⟨List.Perm.refl _⟩
section
variable {w0 w : World} {T : List Nat} {L R A B C D R1 R2 R3 R4 : Hp} {o : Obj} {p q : Nat × Obj}
theorem St.fr (h : St w0 T L w) (X : Hp) [k : Fr1 X L R] : St w0 T (X ++ R) w := h.perm k.pf
theorem St.rm (h : St w0 T L w) (X : Hp) [k : Fr1 X L R] : St w0 T R w := (h.perm k.pf).drop (sR _)
theorem St.fb (h : St w0 T L w) (b : Nat) [k : FrB b L o R] : St w0 T ((b, o) :: R) w := h.perm k.pf
theorem St.ow (h : St w0 T L w) (X : Hp) [k : Fr1 X L R] : ∀ p, p ∈ X → w.heap[p.1]? = some p.2 := fun p hp => (h.own p (k.pf.mem_iff.1 (List.mem_append_left _ hp))).1
theorem St.d1 (h : St w0 T (p :: L) w) : St w0 T L w := h.drop (List.sublist_cons_self _ _)
end
class BoolP (b : Bool) (p q : outParam Prop) : Prop where
 t : b = true → p
 f : b = false → q
instance (priority := low) boolP0 {b : Bool} : BoolP b (b = true) (b = false) := ⟨id, id⟩
instance boolPD {p : Prop} [d : Decidable p] : BoolP (decide p) p (¬ p) := ⟨of_decide_eq_true, of_decide_eq_false⟩
instance boolPN {b : Bool} {p q : Prop} [h : BoolP b p q] : BoolP (!b) q p := ⟨fun e => h.f (by simpa using e), fun e => h.t (by simpa using e)⟩
instance boolPA {a b : Bool} {p q p' q' : Prop} [h : BoolP a p q] [k : BoolP b p' q'] : BoolP (a && b) (p ∧ p') ((a && b) = false) := ⟨fun e => by rw [Bool.and_eq_true] at e; exact ⟨h.t e.1, k.t e.2⟩, id⟩
instance boolPO {a b : Bool} {p q p' q' : Prop} [h : BoolP a p q] [k : BoolP b p' q'] : BoolP (a || b) ((a || b) = true) (q ∧ q') := ⟨id, fun e => by rw [Bool.or_eq_false_iff] at e; exact ⟨h.f e.1, k.f e.2⟩⟩
section
variable {P : Program} {n : Nat} {w : World} {f : Fr}
theorem WC.cq {c : Operand} {x y : Code} {t : Bool} {p q : Prop} {Q : Kont} (hc : ev f c = some (.bool t)) [i : BoolP t p q] (hx : t = true → p → WC P n x Q f w) (hy : t = false → q → WC P n y Q f w) : WC P n (.cond c x y) Q f w :=
 WC.cond hc (fun h => hx h (i.t h)) (fun h => hy h (i.f h))
end
def rstr : List Nat → Fr → Option Fr
 | [], _ => some []
 | i :: r, f => match lk f i with
  | some v => (match rstr r f with
   | some g => some ((i, v) :: g)
   | none => none)
  | none => none
theorem rstr_ok : ∀ {is : List Nat} {f F : Fr}, rstr is f = some F → Sub F f
 | [], f, F, h => by simp only [rstr, Option.some.injEq] at h; subst h; trivial
 | i :: r, f, F, h => by
  unfold rstr at h
  split at h
  ·rename_i v hv
   split at h
   ·rename_i g hg
    simp only [Option.some.injEq] at h
    subst h
    exact ⟨hv, rstr_ok hg⟩
   ·cases h
  ·cases h
def keysF : Fr → List Nat
 | [] => []
 | (i, _) :: r => i :: keysF r
theorem sbF {F f : Fr} (h : rstr (keysF F) f = some F) : Sub F f := rstr_ok h
section
variable {P : Program} {n : Nat} {c : Code} {Q : Kont} {f : Fr} {w0 w : World} {T : List Nat} {R L L0 : Hp}
theorem WC.lV {F : Fr} {L0 : Hp} (is : List Nat) (hF : rstr is f = some F) (hst : St w0 T (L0 ++ R) w) (I : Nat → Hp → Fr → Prop) (k0 : Nat) (h0 : I k0 L0 f)
  (hr : ∀ k a f w, I k a f → Sub F f → St w0 T (a ++ R) w → WC P n c (thenK (fun f' w' => Sub F f' ∧ ∃ a', St w0 T (a' ++ R) w' ∧ ∃ k', k' < k ∧ I k' a' f') Q) f w) : WC P n (.loop c) Q f w :=
 WC.loopV (α := Hp) F (rstr_ok hF) (fun a => a) L0 hst I k0 h0 hr
theorem WC.lS {F : Fr} (is : List Nat) (hF : rstr is f = some F) (hst : St w0 T L w) (I : Nat → Fr → World → Prop) (k0 : Nat) (h0 : I k0 f w)
  (hr : ∀ k f w, I k f w → Sub F f → St w0 T L w → WC P n c (thenK (fun f' w' => Sub F f' ∧ St w0 T L w' ∧ ∃ k', k' < k ∧ I k' f' w') Q) f w) : WC P n (.loop c) Q f w :=
 WC.loopS F (rstr_ok hF) hst I k0 h0 hr
theorem WC.lO {F : Fr} (is : List Nat) (hF : rstr is f = some F) (hst : St w0 T (L0 ++ R) w) (I : Nat → Fr → Hp → Prop) (k0 : Nat) (h0 : I k0 f L0)
  (hr : ∀ k f w L, I k f L → Sub F f → St w0 T (L ++ R) w → WC P n c (thenK (fun f' w' => Sub F f' ∧ ∃ L', St w0 T (L' ++ R) w' ∧ ∃ k', k' < k ∧ I k' f' L') Q) f w) : WC P n (.loop c) Q f w :=
 WC.loopO F (rstr_ok hF) hst I k0 h0 hr
end
def clC (n : Nat) (o : Oper) (f : Fr) : Option (FuncId × List Value × Nat) :=
 match o.guard, o.dst, o.op with
 | none, some d, .call c => (match c.callee with
  | .value fo => (match ev f fo, evs f c.args.toList with
   | some (.func (.func g) ⟨[]⟩ ⟨[]⟩), some vl => bif Nat.blt d n then some (g, vl, d) else none
   | _, _ => none)
  | _ => none)
 | _, _, _ => none
section
variable {P : Program} {n : Nat} {ol rest : List Oper} {o : Oper} {K : Fr → World → Prop} {f : Fr} {w : World}
theorem WL.cl {g d : Nat} {vl : List Value} {R : Ending → World → Prop} (hf : ∀ args w, (callFunc g args).run P w = .ok (.enter g args) w) (h : clC n o f = some (g, vl, d)) (hc : Calls P g vl.toArray w R) (k : ∀ e w', R e w' → ∃ v, e = .returned v ∧ WL P n ol rest K ((d, v) :: f) w') : WL P n ol (o :: rest) K f w := by
 unfold clC at h
 split at h
 ·rename_i d' c hg hd ho
  split at h
  ·rename_i fo hcal
   split at h
   ·rename_i g' vl' hfo hvs
    cases hn : Nat.blt d' n with
    | false => rw [hn] at h; cases h
    | true =>
     rw [hn] at h
     simp only [cond_true, Option.some.injEq, Prod.mk.injEq] at h
     obtain ⟨rfl, rfl, rfl⟩ := h
     refine WL.call (want_none hg) hd hn (Run.call (ts := c.argTypes) (args := c.args) hf ?_ hfo hvs) hc k
     rw [ho]
     obtain ⟨c1, c2, c3⟩ := c
     simp only at hcal
     subst hcal
     rfl
   ·cases h
  ·cases h
 ·cases h
end
theorem WC.jPK {P : Program} {n : Nat} {x : Code} {K : Fr → World → Prop} {Q : Kont} {f F : Fr} {w0 w : World} {T : List Nat} {b : Nat} {o0 : Obj} {L0 R : Hp} (is : List Nat) (hF : rstr is f = some F) (hst : St w0 T ((b, o0) :: (L0 ++ R)) w) (X : Obj → Hp → Prop)
  (hx : WC P n x (thenK (fun f' w' => ∃ o L1, St w0 T ((b, o) :: (L1 ++ R)) w' ∧ X o L1 ∧ Sub F f') Q) f w) (hy : ∀ o L1 w', X o L1 → St w0 T ((b, o) :: (L1 ++ R)) w' → ∀ f', Sub F f' → K f' w') : WC P n x (thenK K Q) f w :=
 hx.mono fun e f' w' h => by
  cases e
  case normal =>
   obtain ⟨o, L1, h1, h2, h3⟩ := h
   exact hy o L1 w' h2 h1 f' h3
  all_goals exact h
theorem St.lend1 {w0 w w' : World} {T : List Nat} {C : Hp} {b : Nat} {o o' : Obj} (h : St w0 T ([(b, o)] ++ C) w) (k : St w [b] [(b, o')] w') : St w0 T ((b, o') :: C) w' := St.lend (A := [(b, o)]) h k
theorem WC.jCK {P : Program} {n : Nat} {x : Code} {K : Fr → World → Prop} {Q : Kont} {f F : Fr} {w0 w : World} {T : List Nat} {b c : Nat} {o0 p0 : Obj} {L0 R : Hp} (is : List Nat) (hF : rstr is f = some F) (hst : St w0 T ((b, o0) :: (c, p0) :: (L0 ++ R)) w) (X : Obj → Obj → Hp → Prop)
  (hx : WC P n x (thenK (fun f' w' => ∃ o p L1, St w0 T ((b, o) :: (c, p) :: (L1 ++ R)) w' ∧ X o p L1 ∧ Sub F f') Q) f w) (hy : ∀ o p L1 w', X o p L1 → St w0 T ((b, o) :: (c, p) :: (L1 ++ R)) w' → ∀ f', Sub F f' → K f' w') : WC P n x (thenK K Q) f w :=
 hx.mono fun e f' w' h => by
  cases e
  case normal =>
   obtain ⟨o, p, L1, h1, h2, h3⟩ := h
   exact hy o p L1 w' h2 h1 f' h3
  all_goals exact h
def tbt1 : TT := .node .leaf 0 ⟨.other, 1, false⟩ .leaf
def tbt2 : TT := .node .leaf 4 ⟨.bool, 1, false⟩ .leaf
def tbt3 : TT := .node tbt1 3 ⟨.int .i64, 1, false⟩ tbt2
def tbt4 : TT := .node .leaf 9 ⟨.str, 1, false⟩ .leaf
def tbt5 : TT := .node tbt4 20 ⟨.other, 1, false⟩ .leaf
def tbt6 : TT := .node tbt3 5 ⟨.int .u8, 1, false⟩ tbt5
def tbt7 : TT := .node .leaf 31 ⟨.slice 101, 1, false⟩ .leaf
def tbt8 : TT := .node tbt7 32 ⟨.slice 137, 1, false⟩ .leaf
def tbt9 : TT := .node .leaf 36 ⟨.struct [0, 6, 7, 8, 9], 10, true⟩ .leaf
def tbt10 : TT := .node tbt9 37 ⟨.other, 1, false⟩ .leaf
def tbt11 : TT := .node tbt8 34 ⟨.struct [0, 1, 2, 3, 4, 5], 6, true⟩ tbt10
def tbt12 : TT := .node tbt6 30 ⟨.slice 123, 1, false⟩ tbt11
def tbt13 : TT := .node .leaf 49 ⟨.other, 1, false⟩ .leaf
def tbt14 : TT := .node .leaf 52 ⟨.other, 1, false⟩ .leaf
def tbt15 : TT := .node tbt13 51 ⟨.slice 55, 1, false⟩ tbt14
def tbt16 : TT := .node .leaf 64 ⟨.slice 3, 1, false⟩ .leaf
def tbt17 : TT := .node tbt16 65 ⟨.other, 1, false⟩ .leaf
def tbt18 : TT := .node tbt15 55 ⟨.struct [0], 1, true⟩ tbt17
def tbt19 : TT := .node .leaf 72 ⟨.other, 1, false⟩ .leaf
def tbt20 : TT := .node tbt19 75 ⟨.struct [0, 1, 2, 3], 4, true⟩ .leaf
def tbt21 : TT := .node .leaf 78 ⟨.other, 1, false⟩ .leaf
def tbt22 : TT := .node tbt21 80 ⟨.other, 1, false⟩ .leaf
def tbt23 : TT := .node tbt20 76 ⟨.other, 1, false⟩ tbt22
def tbt24 : TT := .node tbt18 67 ⟨.other, 1, false⟩ tbt23
def tbt25 : TT := .node tbt12 43 ⟨.slice 5, 1, false⟩ tbt24
def tbt26 : TT := .node .leaf 89 ⟨.other, 1, false⟩ .leaf
def tbt27 : TT := .node .leaf 102 ⟨.other, 1, false⟩ .leaf
def tbt28 : TT := .node tbt26 101 ⟨.struct [0, 1], 2, true⟩ tbt27
def tbt29 : TT := .node .leaf 109 ⟨.struct [0, 10], 11, true⟩ .leaf
def tbt30 : TT := .node tbt29 118 ⟨.struct [0, 1, 2], 3, true⟩ .leaf
def tbt31 : TT := .node tbt28 107 ⟨.other, 1, false⟩ tbt30
def tbt32 : TT := .node .leaf 123 ⟨.struct [0, 1, 2], 3, true⟩ .leaf
def tbt33 : TT := .node tbt32 137 ⟨.struct [0, 1, 2, 3], 4, true⟩ .leaf
def tbt34 : TT := .node .leaf 143 ⟨.other, 1, false⟩ .leaf
def tbt35 : TT := .node tbt34 166 ⟨.other, 1, false⟩ .leaf
def tbt36 : TT := .node tbt33 140 ⟨.other, 1, false⟩ tbt35
def tbt37 : TT := .node tbt31 121 ⟨.other, 1, false⟩ tbt36
def tbt38 : TT := .node .leaf 171 ⟨.other, 1, false⟩ .leaf
def tbt39 : TT := .node .leaf 176 ⟨.int .u64, 1, false⟩ .leaf
def tbt40 : TT := .node tbt38 172 ⟨.other, 1, false⟩ tbt39
def tbt41 : TT := .node .leaf 184 ⟨.other, 1, false⟩ .leaf
def tbt42 : TT := .node tbt41 185 ⟨.other, 1, false⟩ .leaf
def tbt43 : TT := .node tbt40 179 ⟨.other, 1, false⟩ tbt42
def tbt44 : TT := .node .leaf 194 ⟨.int .u32, 1, false⟩ .leaf
def tbt45 : TT := .node tbt44 195 ⟨.slice 43, 1, false⟩ .leaf
def tbt46 : TT := .node .leaf 200 ⟨.other, 1, false⟩ .leaf
def tbt47 : TT := .node tbt46 204 ⟨.other, 1, false⟩ .leaf
def tbt48 : TT := .node tbt45 199 ⟨.other, 1, false⟩ tbt47
def tbt49 : TT := .node tbt43 188 ⟨.other, 1, false⟩ tbt48
def tbt50 : TT := .node tbt37 168 ⟨.other, 1, false⟩ tbt49
def tbt51 : TT := .node tbt25 86 ⟨.other, 1, false⟩ tbt50
theorem tbt1_ok : tbt1.Ok Tryz.prog := ⟨trivial, ⟨trivial, Tryz.sizeOf0, Tryz.isAgg0⟩, trivial⟩
theorem tbt2_ok : tbt2.Ok Tryz.prog := ⟨trivial, ⟨Tryz.runUnderlying4, Tryz.sizeOf4, Tryz.isAgg4⟩, trivial⟩
theorem tbt3_ok : tbt3.Ok Tryz.prog := ⟨tbt1_ok, ⟨Tryz.runUnderlying3, Tryz.sizeOf3, Tryz.isAgg3⟩, tbt2_ok⟩
theorem tbt4_ok : tbt4.Ok Tryz.prog := ⟨trivial, ⟨Tryz.runUnderlying9, Tryz.sizeOf9, Tryz.isAgg9⟩, trivial⟩
theorem tbt5_ok : tbt5.Ok Tryz.prog := ⟨tbt4_ok, ⟨trivial, Tryz.sizeOf20, Tryz.isAgg20⟩, trivial⟩
theorem tbt6_ok : tbt6.Ok Tryz.prog := ⟨tbt3_ok, ⟨Tryz.runUnderlying5, Tryz.sizeOf5, Tryz.isAgg5⟩, tbt5_ok⟩
theorem tbt7_ok : tbt7.Ok Tryz.prog := ⟨trivial, ⟨Tryz.runUnderlying31, Tryz.sizeOf31, Tryz.isAgg31⟩, trivial⟩
theorem tbt8_ok : tbt8.Ok Tryz.prog := ⟨tbt7_ok, ⟨Tryz.runUnderlying32, Tryz.sizeOf32, Tryz.isAgg32⟩, trivial⟩
theorem tbt9_ok : tbt9.Ok Tryz.prog := ⟨trivial, ⟨⟨_, Tryz.runUnderlying36, rfl, ⟨⟨_, Tryz.sizeOf34, rfl⟩, ⟨⟨_, Tryz.sizeOf3, rfl⟩, ⟨⟨_, Tryz.sizeOf3, rfl⟩, ⟨⟨_, Tryz.sizeOf3, rfl⟩, ⟨⟨_, Tryz.sizeOf4, rfl⟩, trivial⟩⟩⟩⟩⟩⟩, Tryz.sizeOf36, Tryz.isAgg36⟩, trivial⟩
theorem tbt10_ok : tbt10.Ok Tryz.prog := ⟨tbt9_ok, ⟨trivial, Tryz.sizeOf37, Tryz.isAgg37⟩, trivial⟩
theorem tbt11_ok : tbt11.Ok Tryz.prog := ⟨tbt8_ok, ⟨⟨_, Tryz.runUnderlying34, rfl, ⟨⟨_, Tryz.sizeOf3, rfl⟩, ⟨⟨_, Tryz.sizeOf3, rfl⟩, ⟨⟨_, Tryz.sizeOf3, rfl⟩, ⟨⟨_, Tryz.sizeOf30, rfl⟩, ⟨⟨_, Tryz.sizeOf31, rfl⟩, ⟨⟨_, Tryz.sizeOf32, rfl⟩, trivial⟩⟩⟩⟩⟩⟩⟩, Tryz.sizeOf34, Tryz.isAgg34⟩, tbt10_ok⟩
theorem tbt12_ok : tbt12.Ok Tryz.prog := ⟨tbt6_ok, ⟨Tryz.runUnderlying30, Tryz.sizeOf30, Tryz.isAgg30⟩, tbt11_ok⟩
theorem tbt13_ok : tbt13.Ok Tryz.prog := ⟨trivial, ⟨trivial, Tryz.sizeOf49, Tryz.isAgg49⟩, trivial⟩
theorem tbt14_ok : tbt14.Ok Tryz.prog := ⟨trivial, ⟨trivial, Tryz.sizeOf52, Tryz.isAgg52⟩, trivial⟩
theorem tbt15_ok : tbt15.Ok Tryz.prog := ⟨tbt13_ok, ⟨Tryz.runUnderlying51, Tryz.sizeOf51, Tryz.isAgg51⟩, tbt14_ok⟩
theorem tbt16_ok : tbt16.Ok Tryz.prog := ⟨trivial, ⟨Tryz.runUnderlying64, Tryz.sizeOf64, Tryz.isAgg64⟩, trivial⟩
theorem tbt17_ok : tbt17.Ok Tryz.prog := ⟨tbt16_ok, ⟨trivial, Tryz.sizeOf65, Tryz.isAgg65⟩, trivial⟩
theorem tbt18_ok : tbt18.Ok Tryz.prog := ⟨tbt15_ok, ⟨⟨_, Tryz.runUnderlying55, rfl, ⟨⟨_, Tryz.sizeOf43, rfl⟩, trivial⟩⟩, Tryz.sizeOf55, Tryz.isAgg55⟩, tbt17_ok⟩
theorem tbt19_ok : tbt19.Ok Tryz.prog := ⟨trivial, ⟨trivial, Tryz.sizeOf72, Tryz.isAgg72⟩, trivial⟩
theorem tbt20_ok : tbt20.Ok Tryz.prog := ⟨tbt19_ok, ⟨⟨_, Tryz.runUnderlying75, rfl, ⟨⟨_, Tryz.sizeOf3, rfl⟩, ⟨⟨_, Tryz.sizeOf9, rfl⟩, ⟨⟨_, Tryz.sizeOf9, rfl⟩, ⟨⟨_, Tryz.sizeOf43, rfl⟩, trivial⟩⟩⟩⟩⟩, Tryz.sizeOf75, Tryz.isAgg75⟩, trivial⟩
theorem tbt21_ok : tbt21.Ok Tryz.prog := ⟨trivial, ⟨trivial, Tryz.sizeOf78, Tryz.isAgg78⟩, trivial⟩
theorem tbt22_ok : tbt22.Ok Tryz.prog := ⟨tbt21_ok, ⟨trivial, Tryz.sizeOf80, Tryz.isAgg80⟩, trivial⟩
theorem tbt23_ok : tbt23.Ok Tryz.prog := ⟨tbt20_ok, ⟨trivial, Tryz.sizeOf76, Tryz.isAgg76⟩, tbt22_ok⟩
theorem tbt24_ok : tbt24.Ok Tryz.prog := ⟨tbt18_ok, ⟨trivial, Tryz.sizeOf67, Tryz.isAgg67⟩, tbt23_ok⟩
theorem tbt25_ok : tbt25.Ok Tryz.prog := ⟨tbt12_ok, ⟨Tryz.runUnderlying43, Tryz.sizeOf43, Tryz.isAgg43⟩, tbt24_ok⟩
theorem tbt26_ok : tbt26.Ok Tryz.prog := ⟨trivial, ⟨trivial, Tryz.sizeOf89, Tryz.isAgg89⟩, trivial⟩
theorem tbt27_ok : tbt27.Ok Tryz.prog := ⟨trivial, ⟨trivial, Tryz.sizeOf102, Tryz.isAgg102⟩, trivial⟩
theorem tbt28_ok : tbt28.Ok Tryz.prog := ⟨tbt26_ok, ⟨⟨_, Tryz.runUnderlying101, rfl, ⟨⟨_, Tryz.sizeOf9, rfl⟩, ⟨⟨_, Tryz.sizeOf3, rfl⟩, trivial⟩⟩⟩, Tryz.sizeOf101, Tryz.isAgg101⟩, tbt27_ok⟩
theorem tbt29_ok : tbt29.Ok Tryz.prog := ⟨trivial, ⟨⟨_, Tryz.runUnderlying109, rfl, ⟨⟨_, Tryz.sizeOf36, rfl⟩, ⟨⟨_, Tryz.sizeOf3, rfl⟩, trivial⟩⟩⟩, Tryz.sizeOf109, Tryz.isAgg109⟩, trivial⟩
theorem tbt30_ok : tbt30.Ok Tryz.prog := ⟨tbt29_ok, ⟨⟨_, Tryz.runUnderlying118, rfl, ⟨⟨_, Tryz.sizeOf43, rfl⟩, ⟨⟨_, Tryz.sizeOf3, rfl⟩, ⟨⟨_, Tryz.sizeOf3, rfl⟩, trivial⟩⟩⟩⟩, Tryz.sizeOf118, Tryz.isAgg118⟩, trivial⟩
theorem tbt31_ok : tbt31.Ok Tryz.prog := ⟨tbt28_ok, ⟨trivial, Tryz.sizeOf107, Tryz.isAgg107⟩, tbt30_ok⟩
theorem tbt32_ok : tbt32.Ok Tryz.prog := ⟨trivial, ⟨⟨_, Tryz.runUnderlying123, rfl, ⟨⟨_, Tryz.sizeOf3, rfl⟩, ⟨⟨_, Tryz.sizeOf43, rfl⟩, ⟨⟨_, Tryz.sizeOf3, rfl⟩, trivial⟩⟩⟩⟩, Tryz.sizeOf123, Tryz.isAgg123⟩, trivial⟩
theorem tbt33_ok : tbt33.Ok Tryz.prog := ⟨tbt32_ok, ⟨⟨_, Tryz.runUnderlying137, rfl, ⟨⟨_, Tryz.sizeOf3, rfl⟩, ⟨⟨_, Tryz.sizeOf9, rfl⟩, ⟨⟨_, Tryz.sizeOf9, rfl⟩, ⟨⟨_, Tryz.sizeOf3, rfl⟩, trivial⟩⟩⟩⟩⟩, Tryz.sizeOf137, Tryz.isAgg137⟩, trivial⟩
theorem tbt34_ok : tbt34.Ok Tryz.prog := ⟨trivial, ⟨trivial, Tryz.sizeOf143, Tryz.isAgg143⟩, trivial⟩
theorem tbt35_ok : tbt35.Ok Tryz.prog := ⟨tbt34_ok, ⟨trivial, Tryz.sizeOf166, Tryz.isAgg166⟩, trivial⟩
theorem tbt36_ok : tbt36.Ok Tryz.prog := ⟨tbt33_ok, ⟨trivial, Tryz.sizeOf140, Tryz.isAgg140⟩, tbt35_ok⟩
theorem tbt37_ok : tbt37.Ok Tryz.prog := ⟨tbt31_ok, ⟨trivial, Tryz.sizeOf121, Tryz.isAgg121⟩, tbt36_ok⟩
theorem tbt38_ok : tbt38.Ok Tryz.prog := ⟨trivial, ⟨trivial, Tryz.sizeOf171, Tryz.isAgg171⟩, trivial⟩
theorem tbt39_ok : tbt39.Ok Tryz.prog := ⟨trivial, ⟨Tryz.runUnderlying176, Tryz.sizeOf176, Tryz.isAgg176⟩, trivial⟩
theorem tbt40_ok : tbt40.Ok Tryz.prog := ⟨tbt38_ok, ⟨trivial, Tryz.sizeOf172, Tryz.isAgg172⟩, tbt39_ok⟩
theorem tbt41_ok : tbt41.Ok Tryz.prog := ⟨trivial, ⟨trivial, Tryz.sizeOf184, Tryz.isAgg184⟩, trivial⟩
theorem tbt42_ok : tbt42.Ok Tryz.prog := ⟨tbt41_ok, ⟨trivial, Tryz.sizeOf185, Tryz.isAgg185⟩, trivial⟩
theorem tbt43_ok : tbt43.Ok Tryz.prog := ⟨tbt40_ok, ⟨trivial, Tryz.sizeOf179, Tryz.isAgg179⟩, tbt42_ok⟩
theorem tbt44_ok : tbt44.Ok Tryz.prog := ⟨trivial, ⟨Tryz.runUnderlying194, Tryz.sizeOf194, Tryz.isAgg194⟩, trivial⟩
theorem tbt45_ok : tbt45.Ok Tryz.prog := ⟨tbt44_ok, ⟨Tryz.runUnderlying195, Tryz.sizeOf195, Tryz.isAgg195⟩, trivial⟩
theorem tbt46_ok : tbt46.Ok Tryz.prog := ⟨trivial, ⟨trivial, Tryz.sizeOf200, Tryz.isAgg200⟩, trivial⟩
theorem tbt47_ok : tbt47.Ok Tryz.prog := ⟨tbt46_ok, ⟨trivial, Tryz.sizeOf204, Tryz.isAgg204⟩, trivial⟩
theorem tbt48_ok : tbt48.Ok Tryz.prog := ⟨tbt45_ok, ⟨trivial, Tryz.sizeOf199, Tryz.isAgg199⟩, tbt47_ok⟩
theorem tbt49_ok : tbt49.Ok Tryz.prog := ⟨tbt43_ok, ⟨trivial, Tryz.sizeOf188, Tryz.isAgg188⟩, tbt48_ok⟩
theorem tbt50_ok : tbt50.Ok Tryz.prog := ⟨tbt37_ok, ⟨trivial, Tryz.sizeOf168, Tryz.isAgg168⟩, tbt49_ok⟩
theorem tbt51_ok : tbt51.Ok Tryz.prog := ⟨tbt25_ok, ⟨trivial, Tryz.sizeOf86, Tryz.isAgg86⟩, tbt50_ok⟩
theorem tbk : TT.Ok Tryz.prog tbt51 := tbt51_ok
instance tbkI : TbOk Tryz.prog tbt51 := ⟨tbk⟩
instance mxI : Mx Tryz.prog := ⟨by kernel_rfl⟩
theorem inf3 : Tryz.prog.info? 3 = some Tryz.t3 := by kernel_rfl
theorem inf5 : Tryz.prog.info? 5 = some Tryz.t5 := by kernel_rfl
theorem inf55 : Tryz.prog.info? 55 = some Tryz.t55 := by kernel_rfl
theorem inf101 : Tryz.prog.info? 101 = some Tryz.t101 := by kernel_rfl
theorem inf123 : Tryz.prog.info? 123 = some Tryz.t123 := by kernel_rfl
theorem inf137 : Tryz.prog.info? 137 = some Tryz.t137 := by kernel_rfl
def totLink (d : LinkD) : Nat := d.Name.size
def smLink (B : Nat) (d : LinkD) : Prop := d.Name.size ≤ B
theorem smLink_le {B B' : Nat} {d : LinkD} (h : smLink B d) (hB : B ≤ B') : smLink B' d := Nat.le_trans h hB
theorem totLink_sm {B : Nat} {d : LinkD} (h : totLink d ≤ B) : smLink B d := by unfold totLink at h; unfold smLink; omega
def totTurn (d : TurnD) : Nat := d.Name.size + d.To.size
def smTurn (B : Nat) (d : TurnD) : Prop := d.Name.size ≤ B ∧ d.To.size ≤ B
theorem smTurn_le {B B' : Nat} {d : TurnD} (h : smTurn B d) (hB : B ≤ B') : smTurn B' d := ⟨Nat.le_trans h.1 hB, Nat.le_trans h.2 hB⟩
theorem totTurn_sm {B : Nat} {d : TurnD} (h : totTurn d ≤ B) : smTurn B d := by unfold totTurn at h; unfold smTurn; omega
structure FileR where
  Id : Int
  Body : SlD UInt8
  Safe : Int
def encFileR : Enc FileR := ⟨3, fun d => [i64 d.Id, .slice d.Body.A d.Body.n d.Body.c, i64 d.Safe], ⟨0, ⟨none, 0, 0, []⟩, 0⟩, fun _ => rfl, fun x v h => by simp at h; rcases h with rfl | rfl | rfl <;> rfl, by decide⟩
structure okFileR (B : Nat) (w : World) (x : FileR) : Prop where
  Body : SlF encB w x.Body.A x.Body.n x.Body.xs
  Body_c : x.Body.n ≤ x.Body.c
  Body_n : x.Body.n ≤ B
structure sepFileR (T : List Nat) (x : FileR) : Prop where
  Body : 0 < x.Body.n → (adr x.Body.A).block ∉ T
theorem okFileR.st0 {B : Nat} {w0 w : World} {L : Hp} {x : FileR} (h : okFileR B w0 x) (hs : St w0 [] L w) : okFileR B w x := ⟨SlF.st0 h.Body hs, h.Body_c, h.Body_n⟩
theorem okFileR.st {B : Nat} {w0 w : World} {T : List Nat} {L : Hp} {x : FileR} (h : okFileR B w0 x) (hs : St w0 T L w) (hp : sepFileR T x) : okFileR B w x := ⟨SlF.st h.Body hs hp.Body, h.Body_c, h.Body_n⟩
theorem okFileR.le {B B' : Nat} {w : World} {x : FileR} (h : okFileR B w x) (hB : B ≤ B') : okFileR B' w x := ⟨h.Body, h.Body_c, Nat.le_trans h.Body_n hB⟩
def FileR.dat (x : FileR) : FileD := ⟨x.Id, x.Body.xs, x.Safe⟩
def smFile (B : Nat) (d : FileD) : Prop := (d.Body.length ≤ B)
theorem okFileR.to {B B' : Nat} {w : World} {x : FileR} (h : okFileR B w x) (h2 : smFile B' x.dat) : okFileR B' w x := ⟨h.Body, h.Body_c, (by have := h.Body.len; have h3 := h2; simp only [smFile, FileR.dat] at h3; omega)⟩
def totFile (d : FileD) : Nat := d.Body.length
theorem totFile_sm {B : Nat} {d : FileD} (h : totFile d ≤ B) : smFile B d := by
  simp only [totFile] at h
  unfold smFile
  exact (by omega)
def ownFileR (x : FileR) (L : Hp) : Prop := OwnF encB 5 (.slice x.Body.A x.Body.n x.Body.c) x.Body.xs L
theorem ownFileR.len {x : FileR} {L : Hp} (h : ownFileR x L) : x.Body.xs.length = x.Body.n := by
  exact (OwnF.len_ h)
theorem ownFileR.ok {B : Nat} {w : World} {x : FileR} {L : Hp} (h : ownFileR x L) (hh : ∀ p, p ∈ L → w.heap[p.1]? = some p.2) (h2 : smFile B x.dat) : okFileR B w x := by
  exact ⟨SlF.ofOwn h (fun p hp => hh p hp), OwnF.cap h, (by have := OwnF.len_ h; have h3 := h2; simp only [FileR.dat, smFile] at h3; omega)⟩
structure DiskR where
  Room : Int
  Fuse : Int
  Next : Int
  Files : SlD FileR
  Kept : SlD LinkD
  Turns : SlD TurnD
def encDiskR : Enc DiskR := ⟨6, fun d => [i64 d.Room, i64 d.Fuse, i64 d.Next, .slice d.Files.A d.Files.n d.Files.c, .slice d.Kept.A d.Kept.n d.Kept.c, .slice d.Turns.A d.Turns.n d.Turns.c], ⟨0, 0, 0, ⟨none, 0, 0, []⟩, ⟨none, 0, 0, []⟩, ⟨none, 0, 0, []⟩⟩, fun _ => rfl, fun x v h => by simp at h; rcases h with rfl | rfl | rfl | rfl | rfl | rfl <;> rfl, by decide⟩
structure okDiskR (B : Nat) (w : World) (x : DiskR) : Prop where
  Files : SlN encFileR (okFileR B) w x.Files.A x.Files.n x.Files.xs
  Files_c : x.Files.n ≤ x.Files.c
  Files_n : x.Files.n ≤ B
  Kept : SlF encLink w x.Kept.A x.Kept.n x.Kept.xs
  Kept_c : x.Kept.n ≤ x.Kept.c
  Kept_n : x.Kept.n ≤ B
  Kept_s : ∀ y, y ∈ x.Kept.xs → smLink B y
  Turns : SlF encTurn w x.Turns.A x.Turns.n x.Turns.xs
  Turns_c : x.Turns.n ≤ x.Turns.c
  Turns_n : x.Turns.n ≤ B
  Turns_s : ∀ y, y ∈ x.Turns.xs → smTurn B y
structure sepDiskR (T : List Nat) (x : DiskR) : Prop where
  Files : 0 < x.Files.n → (adr x.Files.A).block ∉ T
  Files_a : ∀ y, y ∈ x.Files.xs → sepFileR T y
  Kept : 0 < x.Kept.n → (adr x.Kept.A).block ∉ T
  Turns : 0 < x.Turns.n → (adr x.Turns.A).block ∉ T
theorem okDiskR.st0 {B : Nat} {w0 w : World} {L : Hp} {x : DiskR} (h : okDiskR B w0 x) (hs : St w0 [] L w) : okDiskR B w x := ⟨⟨SlF.st0 h.Files.sl hs, fun y hy => okFileR.st0 (h.Files.all y hy) hs⟩, h.Files_c, h.Files_n, SlF.st0 h.Kept hs, h.Kept_c, h.Kept_n, h.Kept_s, SlF.st0 h.Turns hs, h.Turns_c, h.Turns_n, h.Turns_s⟩
theorem okDiskR.st {B : Nat} {w0 w : World} {T : List Nat} {L : Hp} {x : DiskR} (h : okDiskR B w0 x) (hs : St w0 T L w) (hp : sepDiskR T x) : okDiskR B w x := ⟨⟨SlF.st h.Files.sl hs hp.Files, fun y hy => okFileR.st (h.Files.all y hy) hs (hp.Files_a y hy)⟩, h.Files_c, h.Files_n, SlF.st h.Kept hs hp.Kept, h.Kept_c, h.Kept_n, h.Kept_s, SlF.st h.Turns hs hp.Turns, h.Turns_c, h.Turns_n, h.Turns_s⟩
theorem okDiskR.le {B B' : Nat} {w : World} {x : DiskR} (h : okDiskR B w x) (hB : B ≤ B') : okDiskR B' w x := ⟨⟨h.Files.sl, fun y hy => okFileR.le (h.Files.all y hy) hB⟩, h.Files_c, Nat.le_trans h.Files_n hB, h.Kept, h.Kept_c, Nat.le_trans h.Kept_n hB, fun y hy => smLink_le (h.Kept_s y hy) hB, h.Turns, h.Turns_c, Nat.le_trans h.Turns_n hB, fun y hy => smTurn_le (h.Turns_s y hy) hB⟩
def DiskR.dat (x : DiskR) : DiskD := ⟨x.Room, x.Fuse, x.Next, x.Files.xs.map FileR.dat, x.Kept.xs, x.Turns.xs⟩
def smDisk (B : Nat) (d : DiskD) : Prop := (d.Files.length ≤ B) ∧ (∀ y, y ∈ d.Files → smFile B y) ∧ (d.Kept.length ≤ B) ∧ (∀ y, y ∈ d.Kept → smLink B y) ∧ (d.Turns.length ≤ B) ∧ (∀ y, y ∈ d.Turns → smTurn B y)
theorem okDiskR.to {B B' : Nat} {w : World} {x : DiskR} (h : okDiskR B w x) (h2 : smDisk B' x.dat) : okDiskR B' w x := ⟨⟨h.Files.sl, fun y hy => (h.Files.all y hy).to (h2.2.1 _ (List.mem_map_of_mem hy))⟩, h.Files_c, (by have := h.Files.sl.len; have h3 := h2.1; simp only [smDisk, DiskR.dat, List.length_map] at h3; omega), h.Kept, h.Kept_c, (by have := h.Kept.len; have h3 := h2.2.2.1; simp only [smDisk, DiskR.dat] at h3; omega), h2.2.2.2.1, h.Turns, h.Turns_c, (by have := h.Turns.len; have h3 := h2.2.2.2.2.1; simp only [smDisk, DiskR.dat] at h3; omega), h2.2.2.2.2.2⟩
def totDisk (d : DiskD) : Nat := tots totFile d.Files + tots totLink d.Kept + tots totTurn d.Turns
theorem totDisk_sm {B : Nat} {d : DiskD} (h : totDisk d ≤ B) : smDisk B d := by
  simp only [totDisk] at h
  unfold smDisk
  exact ⟨(by have := tots_len totFile d.Files; omega), (fun y hy => totFile_sm (by have := tots_mem (f := totFile) hy; omega)), (by have := tots_len totLink d.Kept; omega), (fun y hy => totLink_sm (by have := tots_mem (f := totLink) hy; omega)), (by have := tots_len totTurn d.Turns; omega), (fun y hy => totTurn_sm (by have := tots_mem (f := totTurn) hy; omega))⟩
def ownDiskR (x : DiskR) (L : Hp) : Prop := ∃ L1 L2 L3, L = L1 ++ (L2 ++ L3) ∧ OwnN encFileR ownFileR 123 (.slice x.Files.A x.Files.n x.Files.c) x.Files.xs L1 ∧ OwnF encLink 101 (.slice x.Kept.A x.Kept.n x.Kept.c) x.Kept.xs L2 ∧ OwnF encTurn 137 (.slice x.Turns.A x.Turns.n x.Turns.c) x.Turns.xs L3
theorem ownDiskR.fold {w0 w : World} {T : List Nat} {L1 L2 L3 R : Hp} (x : DiskR) (hs : St w0 T (L1 ++ (L2 ++ (L3 ++ R))) w) (o1 : OwnN encFileR ownFileR 123 (.slice x.Files.A x.Files.n x.Files.c) x.Files.xs L1) (o2 : OwnF encLink 101 (.slice x.Kept.A x.Kept.n x.Kept.c) x.Kept.xs L2) (o3 : OwnF encTurn 137 (.slice x.Turns.A x.Turns.n x.Turns.c) x.Turns.xs L3) : ∃ L, St w0 T (L ++ R) w ∧ ownDiskR x L := ⟨L1 ++ (L2 ++ L3), by simpa only [List.append_assoc] using hs, L1, L2, L3, rfl, o1, o2, o3⟩
theorem ownDiskR.fl {w0 w : World} {T : List Nat} {L1 L2 L3 L S1 S2 S3 : Hp} [k1 : Fr1 L1 L S1] [k2 : Fr1 L2 S1 S2] [k3 : Fr1 L3 S2 S3] {A1 : Option Addr} {n1 c1 : Nat} {x1 : _} {A2 : Option Addr} {n2 c2 : Nat} {x2 : _} {A3 : Option Addr} {n3 c3 : Nat} {x3 : _} (hs : St w0 T L w) (o1 : OwnN encFileR ownFileR 123 (.slice A1 n1 c1) x1 L1) (o2 : OwnF encLink 101 (.slice A2 n2 c2) x2 L2) (o3 : OwnF encTurn 137 (.slice A3 n3 c3) x3 L3) : ∃ L', St w0 T (L' ++ S3) w ∧ ownDiskR ⟨0, 0, 0, ⟨A1, n1, c1, x1⟩, ⟨A2, n2, c2, x2⟩, ⟨A3, n3, c3, x3⟩⟩ L' := ⟨L1 ++ (L2 ++ L3), by simpa only [List.append_assoc] using hs.perm ((List.Perm.append_left L1 ((List.Perm.append_left L2 k3.pf).trans k2.pf)).trans k1.pf), L1, L2, L3, rfl, o1, o2, o3⟩
theorem ownDiskR.op {w0 w : World} {T : List Nat} {L LL R : Hp} {x : DiskR} [k : Fr1 LL L R] (hs : St w0 T L w) (h : ownDiskR x LL) : ∃ L1 L2 L3, St w0 T (L1 ++ (L2 ++ (L3 ++ R))) w ∧ OwnN encFileR ownFileR 123 (.slice x.Files.A x.Files.n x.Files.c) x.Files.xs L1 ∧ OwnF encLink 101 (.slice x.Kept.A x.Kept.n x.Kept.c) x.Kept.xs L2 ∧ OwnF encTurn 137 (.slice x.Turns.A x.Turns.n x.Turns.c) x.Turns.xs L3 := by
  have hs := hs.fr LL
  obtain ⟨L1, L2, L3, rfl, h⟩ := h
  exact ⟨L1, L2, L3, by simpa only [List.append_assoc] using hs, h⟩
theorem ownDiskR.ret {w w' : World} {K : List Nat} {L1 : Hp} {e : Ending} {D : DiskD} {v0 : Int} {v1 : Int} {v2 : Int} {A1 : Option Addr} {n1 c1 : Nat} {x1 : _} {A2 : Option Addr} {n2 c2 : Nat} {x2 : _} {A3 : Option Addr} {n3 c3 : Nat} {x3 : _} (he : e = .returned (.agg (List.toArray [i64 v0, i64 v1, i64 v2, .slice A1 n1 c1, .slice A2 n2 c2, .slice A3 n3 c3]))) (hs : St w K L1 w') (ho : ownDiskR ⟨0, 0, 0, ⟨A1, n1, c1, x1⟩, ⟨A2, n2, c2, x2⟩, ⟨A3, n3, c3, x3⟩⟩ L1) (hd : (⟨v0, v1, v2, ⟨A1, n1, c1, x1⟩, ⟨A2, n2, c2, x2⟩, ⟨A3, n3, c3, x3⟩⟩ : DiskR).dat = D) : ∃ r L1, e = .returned (.agg #[i64 r.Room, i64 r.Fuse, i64 r.Next, .slice r.Files.A r.Files.n r.Files.c, .slice r.Kept.A r.Kept.n r.Kept.c, .slice r.Turns.A r.Turns.n r.Turns.c]) ∧ St w K L1 w' ∧ ownDiskR r L1 ∧ r.dat = D := ⟨⟨v0, v1, v2, ⟨A1, n1, c1, x1⟩, ⟨A2, n2, c2, x2⟩, ⟨A3, n3, c3, x3⟩⟩, L1, he, hs, ho, hd⟩
theorem ownDiskR.retp {R : Hp} {val : Value} {b t : Nat} {w w' : World} {K : List Nat} {L1 : Hp} {e : Ending} {D : DiskD} {v0 : Int} {v1 : Int} {v2 : Int} {A1 : Option Addr} {n1 c1 : Nat} {x1 : _} {A2 : Option Addr} {n2 c2 : Nat} {x2 : _} {A3 : Option Addr} {n3 c3 : Nat} {x3 : _} (he : e = .returned val) (hs : St w K ((b, .cells (List.toArray [i64 v0, i64 v1, i64 v2, .slice A1 n1 c1, .slice A2 n2 c2, .slice A3 n3 c3]) t (0, 0)) :: (L1 ++ R)) w') (ho : ownDiskR ⟨0, 0, 0, ⟨A1, n1, c1, x1⟩, ⟨A2, n2, c2, x2⟩, ⟨A3, n3, c3, x3⟩⟩ L1) (hd : (⟨v0, v1, v2, ⟨A1, n1, c1, x1⟩, ⟨A2, n2, c2, x2⟩, ⟨A3, n3, c3, x3⟩⟩ : DiskR).dat = D) : ∃ r L1, e = .returned val ∧ St w K ([(b, .cells (List.toArray [i64 r.Room, i64 r.Fuse, i64 r.Next, .slice r.Files.A r.Files.n r.Files.c, .slice r.Kept.A r.Kept.n r.Kept.c, .slice r.Turns.A r.Turns.n r.Turns.c]) t (0, 0))] ++ L1) w' ∧ ownDiskR r L1 ∧ r.dat = D := ⟨⟨v0, v1, v2, ⟨A1, n1, c1, x1⟩, ⟨A2, n2, c2, x2⟩, ⟨A3, n3, c3, x3⟩⟩, L1, he, St.keepP hs, ho, hd⟩
theorem ownDiskR.open_ {w0 w : World} {T : List Nat} {L R : Hp} {x : DiskR} (hs : St w0 T (L ++ R) w) (h : ownDiskR x L) : ∃ L1 L2 L3, St w0 T (L1 ++ (L2 ++ (L3 ++ R))) w ∧ OwnN encFileR ownFileR 123 (.slice x.Files.A x.Files.n x.Files.c) x.Files.xs L1 ∧ OwnF encLink 101 (.slice x.Kept.A x.Kept.n x.Kept.c) x.Kept.xs L2 ∧ OwnF encTurn 137 (.slice x.Turns.A x.Turns.n x.Turns.c) x.Turns.xs L3 := by
  obtain ⟨L1, L2, L3, rfl, h⟩ := h
  exact ⟨L1, L2, L3, by simpa only [List.append_assoc] using hs, h⟩
theorem ownDiskR.len {x : DiskR} {L : Hp} (h : ownDiskR x L) : x.Files.xs.length = x.Files.n ∧ x.Kept.xs.length = x.Kept.n ∧ x.Turns.xs.length = x.Turns.n := by
  obtain ⟨L1, L2, L3, rfl, o1, o2, o3⟩ := h
  exact ⟨(OwnN.len_ o1), (OwnF.len_ o2), (OwnF.len_ o3)⟩
theorem ownDiskR.ok {B : Nat} {w : World} {x : DiskR} {L : Hp} (h : ownDiskR x L) (hh : ∀ p, p ∈ L → w.heap[p.1]? = some p.2) (h2 : smDisk B x.dat) : okDiskR B w x := by
  obtain ⟨L1, L2, L3, rfl, o1, o2, o3⟩ := h
  simp only [List.mem_append] at hh
  exact ⟨OwnN.ok o1 (fun p hp => hh p (.inl hp)) (fun y Li hy h3 hl => h3.ok hl (h2.2.1 _ (List.mem_map_of_mem hy))), OwnN.cap o1, (by have := OwnN.len_ o1; have h3 := h2.1; simp only [DiskR.dat, smDisk, List.length_map] at h3; omega), SlF.ofOwn o2 (fun p hp => hh p (.inr (.inl hp))), OwnF.cap o2, (by have := OwnF.len_ o2; have h3 := h2.2.2.1; simp only [DiskR.dat, smDisk] at h3; omega), (h2.2.2.2.1), SlF.ofOwn o3 (fun p hp => hh p (.inr (.inr (hp)))), OwnF.cap o3, (by have := OwnF.len_ o3; have h3 := h2.2.2.2.2.1; simp only [DiskR.dat, smDisk] at h3; omega), (h2.2.2.2.2.2)⟩
structure DiskOpR where
  Kind : Int
  Name : ByteArray
  To : ByteArray
  Data : SlD UInt8
structure okDiskOpR (B : Nat) (w : World) (x : DiskOpR) : Prop where
  Name_z : x.Name.size ≤ B
  To_z : x.To.size ≤ B
  Data : SlF encB w x.Data.A x.Data.n x.Data.xs
  Data_c : x.Data.n ≤ x.Data.c
  Data_n : x.Data.n ≤ B
structure sepDiskOpR (T : List Nat) (x : DiskOpR) : Prop where
  Data : 0 < x.Data.n → (adr x.Data.A).block ∉ T
theorem okDiskOpR.st0 {B : Nat} {w0 w : World} {L : Hp} {x : DiskOpR} (h : okDiskOpR B w0 x) (hs : St w0 [] L w) : okDiskOpR B w x := ⟨h.Name_z, h.To_z, SlF.st0 h.Data hs, h.Data_c, h.Data_n⟩
theorem okDiskOpR.st {B : Nat} {w0 w : World} {T : List Nat} {L : Hp} {x : DiskOpR} (h : okDiskOpR B w0 x) (hs : St w0 T L w) (hp : sepDiskOpR T x) : okDiskOpR B w x := ⟨h.Name_z, h.To_z, SlF.st h.Data hs hp.Data, h.Data_c, h.Data_n⟩
theorem okDiskOpR.le {B B' : Nat} {w : World} {x : DiskOpR} (h : okDiskOpR B w x) (hB : B ≤ B') : okDiskOpR B' w x := ⟨Nat.le_trans h.Name_z hB, Nat.le_trans h.To_z hB, h.Data, h.Data_c, Nat.le_trans h.Data_n hB⟩
def DiskOpR.dat (x : DiskOpR) : DiskOpD := ⟨x.Kind, x.Name, x.To, x.Data.xs⟩
def smDiskOp (B : Nat) (d : DiskOpD) : Prop := (d.Name.size ≤ B) ∧ (d.To.size ≤ B) ∧ (d.Data.length ≤ B)
theorem okDiskOpR.to {B B' : Nat} {w : World} {x : DiskOpR} (h : okDiskOpR B w x) (h2 : smDiskOp B' x.dat) : okDiskOpR B' w x := ⟨h2.1, h2.2.1, h.Data, h.Data_c, (by have := h.Data.len; have h3 := h2.2.2; simp only [smDiskOp, DiskOpR.dat] at h3; omega)⟩
def ownDiskOpR (x : DiskOpR) (L : Hp) : Prop := OwnF encB 5 (.slice x.Data.A x.Data.n x.Data.c) x.Data.xs L
theorem ownDiskOpR.len {x : DiskOpR} {L : Hp} (h : ownDiskOpR x L) : x.Data.xs.length = x.Data.n := by
  exact (OwnF.len_ h)
theorem ownDiskOpR.ok {B : Nat} {w : World} {x : DiskOpR} {L : Hp} (h : ownDiskOpR x L) (hh : ∀ p, p ∈ L → w.heap[p.1]? = some p.2) (h2 : smDiskOp B x.dat) : okDiskOpR B w x := by
  exact ⟨(h2.1), (h2.2.1), SlF.ofOwn h (fun p hp => hh p hp), OwnF.cap h, (by have := OwnF.len_ h; have h3 := h2.2.2; simp only [DiskOpR.dat, smDiskOp] at h3; omega)⟩
structure DepotR where
  Disk : DiskR
  Gen : Int
  Seq : Int
  Size : Int
  Stuck : Bool
structure okDepotR (B : Nat) (w : World) (x : DepotR) : Prop where
  Disk : okDiskR B w x.Disk
structure sepDepotR (T : List Nat) (x : DepotR) : Prop where
  Disk : sepDiskR T x.Disk
theorem okDepotR.st0 {B : Nat} {w0 w : World} {L : Hp} {x : DepotR} (h : okDepotR B w0 x) (hs : St w0 [] L w) : okDepotR B w x := ⟨okDiskR.st0 h.Disk hs⟩
theorem okDepotR.st {B : Nat} {w0 w : World} {T : List Nat} {L : Hp} {x : DepotR} (h : okDepotR B w0 x) (hs : St w0 T L w) (hp : sepDepotR T x) : okDepotR B w x := ⟨okDiskR.st h.Disk hs hp.Disk⟩
theorem okDepotR.le {B B' : Nat} {w : World} {x : DepotR} (h : okDepotR B w x) (hB : B ≤ B') : okDepotR B' w x := ⟨okDiskR.le h.Disk hB⟩
def DepotR.dat (x : DepotR) : DepotD := ⟨x.Disk.dat, x.Gen, x.Seq, x.Size, x.Stuck⟩
def smDepot (B : Nat) (d : DepotD) : Prop := (smDisk B d.Disk)
theorem okDepotR.to {B B' : Nat} {w : World} {x : DepotR} (h : okDepotR B w x) (h2 : smDepot B' x.dat) : okDepotR B' w x := ⟨h.Disk.to h2⟩
def totDepot (d : DepotD) : Nat := tots totFile d.Disk.Files + tots totLink d.Disk.Kept + tots totTurn d.Disk.Turns
theorem totDepot_sm {B : Nat} {d : DepotD} (h : totDepot d ≤ B) : smDepot B d := by
  simp only [totDepot] at h
  unfold smDepot
  exact (totDisk_sm (by simp only [totDisk]; omega))
def ownDepotR (x : DepotR) (L : Hp) : Prop := ∃ L1 L2 L3, L = L1 ++ (L2 ++ L3) ∧ OwnN encFileR ownFileR 123 (.slice x.Disk.Files.A x.Disk.Files.n x.Disk.Files.c) x.Disk.Files.xs L1 ∧ OwnF encLink 101 (.slice x.Disk.Kept.A x.Disk.Kept.n x.Disk.Kept.c) x.Disk.Kept.xs L2 ∧ OwnF encTurn 137 (.slice x.Disk.Turns.A x.Disk.Turns.n x.Disk.Turns.c) x.Disk.Turns.xs L3
theorem ownDepotR.fold {w0 w : World} {T : List Nat} {L1 L2 L3 R : Hp} (x : DepotR) (hs : St w0 T (L1 ++ (L2 ++ (L3 ++ R))) w) (o1 : OwnN encFileR ownFileR 123 (.slice x.Disk.Files.A x.Disk.Files.n x.Disk.Files.c) x.Disk.Files.xs L1) (o2 : OwnF encLink 101 (.slice x.Disk.Kept.A x.Disk.Kept.n x.Disk.Kept.c) x.Disk.Kept.xs L2) (o3 : OwnF encTurn 137 (.slice x.Disk.Turns.A x.Disk.Turns.n x.Disk.Turns.c) x.Disk.Turns.xs L3) : ∃ L, St w0 T (L ++ R) w ∧ ownDepotR x L := ⟨L1 ++ (L2 ++ L3), by simpa only [List.append_assoc] using hs, L1, L2, L3, rfl, o1, o2, o3⟩
theorem ownDepotR.fl {w0 w : World} {T : List Nat} {L1 L2 L3 L S1 S2 S3 : Hp} [k1 : Fr1 L1 L S1] [k2 : Fr1 L2 S1 S2] [k3 : Fr1 L3 S2 S3] {A1 : Option Addr} {n1 c1 : Nat} {x1 : _} {A2 : Option Addr} {n2 c2 : Nat} {x2 : _} {A3 : Option Addr} {n3 c3 : Nat} {x3 : _} (hs : St w0 T L w) (o1 : OwnN encFileR ownFileR 123 (.slice A1 n1 c1) x1 L1) (o2 : OwnF encLink 101 (.slice A2 n2 c2) x2 L2) (o3 : OwnF encTurn 137 (.slice A3 n3 c3) x3 L3) : ∃ L', St w0 T (L' ++ S3) w ∧ ownDepotR ⟨⟨0, 0, 0, ⟨A1, n1, c1, x1⟩, ⟨A2, n2, c2, x2⟩, ⟨A3, n3, c3, x3⟩⟩, 0, 0, 0, false⟩ L' := ⟨L1 ++ (L2 ++ L3), by simpa only [List.append_assoc] using hs.perm ((List.Perm.append_left L1 ((List.Perm.append_left L2 k3.pf).trans k2.pf)).trans k1.pf), L1, L2, L3, rfl, o1, o2, o3⟩
theorem ownDepotR.op {w0 w : World} {T : List Nat} {L LL R : Hp} {x : DepotR} [k : Fr1 LL L R] (hs : St w0 T L w) (h : ownDepotR x LL) : ∃ L1 L2 L3, St w0 T (L1 ++ (L2 ++ (L3 ++ R))) w ∧ OwnN encFileR ownFileR 123 (.slice x.Disk.Files.A x.Disk.Files.n x.Disk.Files.c) x.Disk.Files.xs L1 ∧ OwnF encLink 101 (.slice x.Disk.Kept.A x.Disk.Kept.n x.Disk.Kept.c) x.Disk.Kept.xs L2 ∧ OwnF encTurn 137 (.slice x.Disk.Turns.A x.Disk.Turns.n x.Disk.Turns.c) x.Disk.Turns.xs L3 := by
  have hs := hs.fr LL
  obtain ⟨L1, L2, L3, rfl, h⟩ := h
  exact ⟨L1, L2, L3, by simpa only [List.append_assoc] using hs, h⟩
theorem ownDepotR.ret {w w' : World} {K : List Nat} {L1 : Hp} {e : Ending} {D : DepotD} {v0 : Int} {v1 : Int} {v2 : Int} {A1 : Option Addr} {n1 c1 : Nat} {x1 : _} {A2 : Option Addr} {n2 c2 : Nat} {x2 : _} {A3 : Option Addr} {n3 c3 : Nat} {x3 : _} {v6 : Int} {v7 : Int} {v8 : Int} {v9 : Bool} (he : e = .returned (.agg (List.toArray [i64 v0, i64 v1, i64 v2, .slice A1 n1 c1, .slice A2 n2 c2, .slice A3 n3 c3, i64 v6, i64 v7, i64 v8, .bool v9]))) (hs : St w K L1 w') (ho : ownDepotR ⟨⟨0, 0, 0, ⟨A1, n1, c1, x1⟩, ⟨A2, n2, c2, x2⟩, ⟨A3, n3, c3, x3⟩⟩, 0, 0, 0, false⟩ L1) (hd : (⟨⟨v0, v1, v2, ⟨A1, n1, c1, x1⟩, ⟨A2, n2, c2, x2⟩, ⟨A3, n3, c3, x3⟩⟩, v6, v7, v8, v9⟩ : DepotR).dat = D) : ∃ r L1, e = .returned (.agg #[i64 r.Disk.Room, i64 r.Disk.Fuse, i64 r.Disk.Next, .slice r.Disk.Files.A r.Disk.Files.n r.Disk.Files.c, .slice r.Disk.Kept.A r.Disk.Kept.n r.Disk.Kept.c, .slice r.Disk.Turns.A r.Disk.Turns.n r.Disk.Turns.c, i64 r.Gen, i64 r.Seq, i64 r.Size, .bool r.Stuck]) ∧ St w K L1 w' ∧ ownDepotR r L1 ∧ r.dat = D := ⟨⟨⟨v0, v1, v2, ⟨A1, n1, c1, x1⟩, ⟨A2, n2, c2, x2⟩, ⟨A3, n3, c3, x3⟩⟩, v6, v7, v8, v9⟩, L1, he, hs, ho, hd⟩
theorem ownDepotR.retp {R : Hp} {val : Value} {b t : Nat} {w w' : World} {K : List Nat} {L1 : Hp} {e : Ending} {D : DepotD} {v0 : Int} {v1 : Int} {v2 : Int} {A1 : Option Addr} {n1 c1 : Nat} {x1 : _} {A2 : Option Addr} {n2 c2 : Nat} {x2 : _} {A3 : Option Addr} {n3 c3 : Nat} {x3 : _} {v6 : Int} {v7 : Int} {v8 : Int} {v9 : Bool} (he : e = .returned val) (hs : St w K ((b, .cells (List.toArray [i64 v0, i64 v1, i64 v2, .slice A1 n1 c1, .slice A2 n2 c2, .slice A3 n3 c3, i64 v6, i64 v7, i64 v8, .bool v9]) t (0, 0)) :: (L1 ++ R)) w') (ho : ownDepotR ⟨⟨0, 0, 0, ⟨A1, n1, c1, x1⟩, ⟨A2, n2, c2, x2⟩, ⟨A3, n3, c3, x3⟩⟩, 0, 0, 0, false⟩ L1) (hd : (⟨⟨v0, v1, v2, ⟨A1, n1, c1, x1⟩, ⟨A2, n2, c2, x2⟩, ⟨A3, n3, c3, x3⟩⟩, v6, v7, v8, v9⟩ : DepotR).dat = D) : ∃ r L1, e = .returned val ∧ St w K ([(b, .cells (List.toArray [i64 r.Disk.Room, i64 r.Disk.Fuse, i64 r.Disk.Next, .slice r.Disk.Files.A r.Disk.Files.n r.Disk.Files.c, .slice r.Disk.Kept.A r.Disk.Kept.n r.Disk.Kept.c, .slice r.Disk.Turns.A r.Disk.Turns.n r.Disk.Turns.c, i64 r.Gen, i64 r.Seq, i64 r.Size, .bool r.Stuck]) t (0, 0))] ++ L1) w' ∧ ownDepotR r L1 ∧ r.dat = D := ⟨⟨⟨v0, v1, v2, ⟨A1, n1, c1, x1⟩, ⟨A2, n2, c2, x2⟩, ⟨A3, n3, c3, x3⟩⟩, v6, v7, v8, v9⟩, L1, he, St.keepP hs, ho, hd⟩
theorem ownDepotR.open_ {w0 w : World} {T : List Nat} {L R : Hp} {x : DepotR} (hs : St w0 T (L ++ R) w) (h : ownDepotR x L) : ∃ L1 L2 L3, St w0 T (L1 ++ (L2 ++ (L3 ++ R))) w ∧ OwnN encFileR ownFileR 123 (.slice x.Disk.Files.A x.Disk.Files.n x.Disk.Files.c) x.Disk.Files.xs L1 ∧ OwnF encLink 101 (.slice x.Disk.Kept.A x.Disk.Kept.n x.Disk.Kept.c) x.Disk.Kept.xs L2 ∧ OwnF encTurn 137 (.slice x.Disk.Turns.A x.Disk.Turns.n x.Disk.Turns.c) x.Disk.Turns.xs L3 := by
  obtain ⟨L1, L2, L3, rfl, h⟩ := h
  exact ⟨L1, L2, L3, by simpa only [List.append_assoc] using hs, h⟩
theorem ownDepotR.len {x : DepotR} {L : Hp} (h : ownDepotR x L) : x.Disk.Files.xs.length = x.Disk.Files.n ∧ x.Disk.Kept.xs.length = x.Disk.Kept.n ∧ x.Disk.Turns.xs.length = x.Disk.Turns.n := by
  obtain ⟨L1, L2, L3, rfl, o1, o2, o3⟩ := h
  exact ⟨(OwnN.len_ o1), (OwnF.len_ o2), (OwnF.len_ o3)⟩
theorem ownDepotR.ok {B : Nat} {w : World} {x : DepotR} {L : Hp} (h : ownDepotR x L) (hh : ∀ p, p ∈ L → w.heap[p.1]? = some p.2) (h2 : smDepot B x.dat) : okDepotR B w x := by
  obtain ⟨L1, L2, L3, rfl, o1, o2, o3⟩ := h
  simp only [List.mem_append] at hh
  exact ⟨⟨OwnN.ok o1 (fun p hp => hh p (.inl hp)) (fun y Li hy h3 hl => h3.ok hl (h2.2.1 _ (List.mem_map_of_mem hy))), OwnN.cap o1, (by have := OwnN.len_ o1; have h3 := h2.1; simp only [DepotR.dat, DiskR.dat, smDepot, smDisk, List.length_map] at h3; omega), SlF.ofOwn o2 (fun p hp => hh p (.inr (.inl hp))), OwnF.cap o2, (by have := OwnF.len_ o2; have h3 := h2.2.2.1; simp only [DepotR.dat, DiskR.dat, smDepot, smDisk] at h3; omega), (h2.2.2.2.1), SlF.ofOwn o3 (fun p hp => hh p (.inr (.inr (hp)))), OwnF.cap o3, (by have := OwnF.len_ o3; have h3 := h2.2.2.2.2.1; simp only [DepotR.dat, DiskR.dat, smDepot, smDisk] at h3; omega), (h2.2.2.2.2.2)⟩⟩
structure LoadR where
  Data : SlD UInt8
def encLoadR : Enc LoadR := ⟨1, fun d => [.slice d.Data.A d.Data.n d.Data.c], ⟨⟨none, 0, 0, []⟩⟩, fun _ => rfl, fun x v h => by simp at h; rcases h with rfl <;> rfl, by decide⟩
structure okLoadR (B : Nat) (w : World) (x : LoadR) : Prop where
  Data : SlF encB w x.Data.A x.Data.n x.Data.xs
  Data_c : x.Data.n ≤ x.Data.c
  Data_n : x.Data.n ≤ B
structure sepLoadR (T : List Nat) (x : LoadR) : Prop where
  Data : 0 < x.Data.n → (adr x.Data.A).block ∉ T
theorem okLoadR.st0 {B : Nat} {w0 w : World} {L : Hp} {x : LoadR} (h : okLoadR B w0 x) (hs : St w0 [] L w) : okLoadR B w x := ⟨SlF.st0 h.Data hs, h.Data_c, h.Data_n⟩
theorem okLoadR.st {B : Nat} {w0 w : World} {T : List Nat} {L : Hp} {x : LoadR} (h : okLoadR B w0 x) (hs : St w0 T L w) (hp : sepLoadR T x) : okLoadR B w x := ⟨SlF.st h.Data hs hp.Data, h.Data_c, h.Data_n⟩
theorem okLoadR.le {B B' : Nat} {w : World} {x : LoadR} (h : okLoadR B w x) (hB : B ≤ B') : okLoadR B' w x := ⟨h.Data, h.Data_c, Nat.le_trans h.Data_n hB⟩
def LoadR.dat (x : LoadR) : LoadD := ⟨x.Data.xs⟩
def smLoad (B : Nat) (d : LoadD) : Prop := (d.Data.length ≤ B)
theorem okLoadR.to {B B' : Nat} {w : World} {x : LoadR} (h : okLoadR B w x) (h2 : smLoad B' x.dat) : okLoadR B' w x := ⟨h.Data, h.Data_c, (by have := h.Data.len; have h3 := h2; simp only [smLoad, LoadR.dat] at h3; omega)⟩
def ownLoadR (x : LoadR) (L : Hp) : Prop := OwnF encB 5 (.slice x.Data.A x.Data.n x.Data.c) x.Data.xs L
theorem ownLoadR.len {x : LoadR} {L : Hp} (h : ownLoadR x L) : x.Data.xs.length = x.Data.n := by
  exact (OwnF.len_ h)
theorem ownLoadR.ok {B : Nat} {w : World} {x : LoadR} {L : Hp} (h : ownLoadR x L) (hh : ∀ p, p ∈ L → w.heap[p.1]? = some p.2) (h2 : smLoad B x.dat) : okLoadR B w x := by
  exact ⟨SlF.ofOwn h (fun p hp => hh p hp), OwnF.cap h, (by have := OwnF.len_ h; have h3 := h2; simp only [LoadR.dat, smLoad] at h3; omega)⟩
theorem mixed : Tryz.prog.follows .mixedOrders = true := by kernel_rfl
theorem k0_ (n lo hi : Int) (w : World) :
    Calls Tryz.prog 61 #[i64 n, i64 lo, i64 hi] w fun e w' => e = .returned (.bool (within n lo hi)) ∧ St w [] [] w' := by
 refine enter 15 Tryz.func61 rfl Tryz.ntmps61 rfl rfl ?_
 have hs1 := St.init w
 refine WC.r1 hs1 [] rfl (WC.sr (WL.r 4 hs1 [] rfl (WL.pA tbk 3 Acts.nil hs1 [] rfl rfl rfl rfl (fun g_ => trivial) (WL.r 1 hs1 [] rfl (WL.nil (WC.ret (retV1 rfl (resV.tmp rfl) ?_)))))))
 refine ⟨congrArg Ending.returned ?_, hs1.nil⟩
 rfl
theorem built_118_0_2 (x0 : Option Addr) (x1 : Nat) (x2 : Nat) (x3 : Int) : Tryz.prog.built 118 [(0, .slice x0 x1 x2), (2, .int .i64 x3)] = some (List.toArray [.slice x0 x1 x2, .int .i64 0, .int .i64 x3]) := by kernel_rfl
theorem k1_ (A_s : Option Addr) (n_s c_s : Nat) (s : List UInt8) (w : World) (f_s : SlF encB w A_s n_s s) (hn : n_s ≤ 1048576) :
    Calls Tryz.prog 48 #[.slice A_s n_s c_s] w fun e w' => ∃ b h, e = .returned (.pointer (some ⟨b, 0, none⟩)) ∧ St w [] [(b, Obj.cells (List.toArray [.slice A_s n_s c_s, i64 (0), i64 (h)]) 118 (0, 0))] w' := by
 have hl := f_s.len
 refine enter 32 Tryz.func48 rfl Tryz.ntmps48 rfl rfl ?_
 have hs1 := St.init w
 refine WC.r1 hs1 [] rfl (WC.r1 hs1 [] rfl (WC.seq (fun K2 hK2 => WC.r1 hs1 [] rfl (WC.block ?_))))
 refine WC.lS [0, 2] rfl hs1 (fun k_ f w' => ∃ (i : Nat) (h : Int), k_ = n_s - i ∧ (i ≤ n_s) ∧ (0 ≤ h ∧ h ≤ 1073741823) ∧ Sub [(4, .int .i64 i), (3, .int .i64 h)] f) ((fun (i : Nat) (h : Int) => n_s - i) (0) (612857 + (n_s : Int))) ?_ ?_
 ·refine ⟨0, 612857 + (n_s : Int), rfl, ?_, ?_, ⟨rfl, rfl, trivial⟩⟩
  · exact Nat.zero_le _
  · omega
 clear hs1
 rintro _ f w ⟨i, h, rfl, p0, p1, hG⟩ hF hs3
 refine WC.sub _ (hG.app hF) ?_
 clear hG hF
 refine WC.seq (fun K4 hK4 => WC.sr (WL.r 5 hs3 [] rfl (WL.pA tbk 2 Acts.nil hs3 [] rfl rfl rfl rfl (fun g_ => trivial) (WL.nil ?_))))
 refine WC.cq rfl (fun h5 qh5 => ?_) (fun h5 qh5 => ?_)
 ·have hbt := UInt8.toNat_lt (gat encB s i)
  refine WC.skip (hK4 _ _ (WC.seq (fun K6 hK6 => WC.block (WC.region (WL.r 4 hs3 [] rfl ?_)))))
  refine WL.val rfl rfl rfl (Run.idxN Tryz.runUnderlying43 Tryz.sizeOf5 rfl rfl rfl ?_ ?_ ?_) ?_
  · exact SlF.some_ (SlF.st0 f_s hs3)
  · omega
  · omega
  refine WL.val rfl rfl rfl (Run.load Tryz.isAgg5 rfl rfl (SlF.one1 (SlF.st0 f_s hs3) ?_ rfl)) ?_
  · omega
  refine WL.r 3 hs3 [] rfl (WL.val rfl rfl rfl (Run.andB rfl rfl rfl) (WL.r 1 hs3 [] rfl (WL.nil (hK6 _ _ (WC.region (WL.r 3 hs3 [] rfl (WL.nil ?_)))))))
  refine tkN (⟨sbF rfl, hs3, _, ?_, i + 1, _, rfl, ?_, ?_, ⟨rfl, rfl, trivial⟩⟩)
  · omega
  · omega
  · exact bitsAnd_mask _ (by omega) (by omega)
 refine WC.exit (hK2 _ _ (WC.sr (WL.r 2 hs3 [] rfl ?_)))
 refine WL.val rfl rfl rfl (Run.build rfl rfl rfl rfl (built_118_0_2 _ _ _ _)) (WL.bx hs3 rfl (fun b7 _ hs8 => WL.r 1 hs8 [] rfl (WL.nil (WC.ret (retV1 rfl (resV.tmp rfl) (⟨_, _, rfl, hs8⟩))))))
theorem k2_ (b_c : Nat) (A_s : Option Addr) (n_s c_s : Nat) (s : List UInt8) (i h : Int)  (w : World) (hc : w.heap[b_c]? = some (Obj.cells (List.toArray [.slice A_s n_s c_s, i64 (i), i64 (h)]) 118 (0, 0))) (f_s : SlF encB w A_s n_s s) (s_s : 0 < n_s → (adr A_s).block ∉ [b_c]) (hn : n_s ≤ 1099511627776) (hi : 0 ≤ i ∧ i ≤ n_s) :
    Calls Tryz.prog 100 #[.pointer (some ⟨b_c, 0, none⟩)] w fun e w' => ∃ r i' h', e = .returned (.int .i64 r) ∧ St w [b_c] [(b_c, Obj.cells (List.toArray [.slice A_s n_s c_s, i64 (i'), i64 (h')]) 118 (0, 0))] w' ∧ (0 ≤ r ∧ r ≤ 255) ∧ (0 ≤ i' ∧ i' ≤ n_s) := by
 have hl := f_s.len
 refine enter 58 Tryz.func100 rfl Tryz.ntmps100 rfl rfl ?_
 have hs1 := St.take1 w b_c _ hc
 refine WC.r1 hs1 [] rfl (WC.sr (WL.r 5 hs1 [0] rfl (WL.val rfl rfl rfl (Run.mulW rfl rfl rfl) (WL.val rfl rfl rfl (Run.addW rfl rfl rfl) (WL.r 2 hs1 [] rfl (WL.st tbk hs1 0 rfl rfl (fun _ hs2 => WL.nil ?_)))))))
 refine WC.sq1 hs2 (WQ.r 4 [0] rfl ?_)
 refine WQ.val rfl rfl rfl (fun w_ hs_ => (Run.shr rfl rfl rfl ?_ ?_)) ?_
 · omega
 · omega
 refine WQ.r 4 [0] rfl ?_
 refine WQ.val rfl rfl rfl (fun w_ hs_ => (Run.shr rfl rfl rfl ?_ ?_)) ?_
 · omega
 · omega
 refine WQ.val rfl rfl rfl (fun w_ hs_ => (Run.xorB rfl rfl rfl)) ?_
 refine WQ.val rfl rfl rfl (fun w_ hs_ => (Run.andB rfl rfl rfl)) ?_
 refine WQ.r 1 [] rfl (WQ.nil (fun _ (hs3 : St _ _ _ _) => WC.seq (fun K4 hK4 => WC.q1 hs3 [0, 0] rfl (fun _ hs5 => ?_))))
 refine WC.cD rfl (fun qh6 => ?_) (fun qh6 => ?_)
 ·refine WC.sq1 hs5 (WQ.r 9 [0, 0] rfl ?_)
  refine WQ.val rfl rfl rfl (fun w_ hs_ => (Run.idxK (i.toNat) Tryz.runUnderlying43 Tryz.sizeOf5 rfl rfl rfl ?_ ?_ ?_)) ?_
  · exact SlF.some_ (SlF.st f_s (hs_ : St _ _ _ _) s_s)
  · omega
  · omega
  refine WQ.val rfl rfl rfl (fun w_ hs_ => (Run.load Tryz.isAgg5 rfl rfl (SlF.one1 (SlF.st f_s (hs_ : St _ _ _ _) s_s) ?_ rfl))) ?_
  · omega
  refine WQ.r 1 [] rfl ?_
  refine WQ.val rfl rfl rfl (fun w_ hs_ => (Run.addW rfl rfl rfl)) ?_
  refine WQ.val rfl rfl rfl (fun w_ hs_ => (Run.andB rfl rfl rfl)) ?_
  refine WQ.r 1 [] rfl (WQ.nil (fun _ (hs7 : St _ _ _ _) => WC.region (WL.r 8 hs7 [0] rfl (WL.st tbk hs7 0 rfl rfl (fun _ hs8 => WL.nil (hK4 _ _ (WC.r1 hs8 [] rfl ?_)))))))
  refine WC.ret (retV1 rfl (resV.tmp rfl) (⟨_, _, _, rfl, hs8, bitsAnd_mask _ (by omega) (by omega), by omega⟩))
 refine WC.skip (hK4 _ _ (WC.r1 hs5 [] rfl (WC.ret (retV1 rfl (resV.tmp rfl) (⟨_, _, _, rfl, hs5, bitsAnd_mask _ (by omega) (by omega), by omega⟩)))))
theorem k3_ (b_c : Nat) (A_s : Option Addr) (n_s c_s : Nat) (s : List UInt8) (i h : Int) (n : Int) (w : World) (hc : w.heap[b_c]? = some (Obj.cells (List.toArray [.slice A_s n_s c_s, i64 (i), i64 (h)]) 118 (0, 0))) (f_s : SlF encB w A_s n_s s) (s_s : 0 < n_s → (adr A_s).block ∉ [b_c]) (hn : n_s ≤ 1099511627776) (hi : 0 ≤ i ∧ i ≤ n_s) :
    Calls Tryz.prog 50 #[.pointer (some ⟨b_c, 0, none⟩), i64 n] w fun e w' => ∃ r i' h', e = .returned (.int .i64 r) ∧ St w [b_c] [(b_c, Obj.cells (List.toArray [.slice A_s n_s c_s, i64 (i'), i64 (h')]) 118 (0, 0))] w' ∧ (0 ≤ r ∧ (0 < n → r < n)) ∧ (0 ≤ i' ∧ i' ≤ n_s) := by
 have hl := f_s.len
 refine enter 37 Tryz.func50 rfl Tryz.ntmps50 rfl rfl ?_
 have hs1 := St.take1 w b_c _ hc
 refine WC.r1 hs1 [] rfl (WC.seq (fun K2 hK2 => WC.r1 hs1 [] rfl ?_))
 refine WC.cD rfl (fun qh3 => ?_) (fun qh3 => ?_)
 ·refine WC.r1 hs1 [] rfl (WC.ret (tkR ?_))
  clear hK2
  refine retV1 rfl (resV.tmp rfl) (⟨_, _, _, rfl, hs1, ⟨by omega, by omega⟩, by omega⟩)
 refine WC.skip (hK2 _ _ (WC.seq (fun K4 hK4 => WC.r1 hs1 [] rfl ?_)))
 refine WC.cD rfl (fun qh5 => ?_) (fun qh5 => ?_)
 ·refine WC.sr (WL.r 1 hs1 [] rfl ?_)
  have hF6 : St _ _ ([(b_c, _)] ++ _) _ := hs1
  refine WL.call rfl rfl rfl (Run.call Tryz.call100 rfl rfl rfl) (k2_ _ _ _ _ _ _ _ _ (hF6.own _ List.mem_cons_self).1 (SlF.st f_s hs1 s_s) (St.sepT hF6 f_s s_s) ?_ ?_) ?_
  · omega
  · omega
  rintro _ whs12 ⟨r7, i8, h9, rfl, hs12, hr10, hi11⟩
  replace hs12 := St.lend1 hF6 hs12
  refine ⟨_, rfl, WL.r 1 hs12 [] rfl (WL.val rfl rfl rfl (Run.rem rfl rfl rfl ?_ ?_) ?_)⟩
  · omega
  · omega
  refine WL.r 1 hs12 [] rfl (WL.nil (WC.ret (tkR ?_)))
  clear hK4
  refine retV1 rfl (resV.tmp rfl) (⟨_, _, _, rfl, hs12, ⟨Int.emod_nonneg _ (by omega), fun h_ => Int.emod_lt_of_pos _ h_⟩, by omega⟩)
 refine WC.skip (hK4 _ _ (WC.sr (WL.r 1 hs1 [] rfl ?_)))
 have hF13 : St _ _ ([(b_c, _)] ++ _) _ := hs1
 refine WL.call rfl rfl rfl (Run.call Tryz.call100 rfl rfl rfl) (k2_ _ _ _ _ _ _ _ _ (hF13.own _ List.mem_cons_self).1 (SlF.st f_s hs1 s_s) (St.sepT hF13 f_s s_s) ?_ ?_) ?_
 · omega
 · omega
 rintro _ whs19 ⟨r14, i15, h16, rfl, hs19, hr17, hi18⟩
 replace hs19 := St.lend1 hF13 hs19
 refine ⟨_, rfl, WL.r 1 hs19 [] rfl (WL.nil (WC.sr (WL.r 1 hs19 [] rfl ?_)))⟩
 have hF20 : St _ _ ([(b_c, _)] ++ _) _ := hs19
 refine WL.call rfl rfl rfl (Run.call Tryz.call100 rfl rfl rfl) (k2_ _ _ _ _ _ _ _ _ (hF20.own _ List.mem_cons_self).1 (SlF.st f_s hs19 s_s) (St.sepT hF20 f_s s_s) ?_ ?_) ?_
 · omega
 · omega
 rintro _ whs26 ⟨r21, i22, h23, rfl, hs26, hr24, hi25⟩
 replace hs26 := St.lend1 hF20 hs26
 refine ⟨_, rfl, WL.r 1 hs26 [] rfl (WL.nil (WC.sr (WL.r 1 hs26 [] rfl ?_)))⟩
 have hF27 : St _ _ ([(b_c, _)] ++ _) _ := hs26
 refine WL.call rfl rfl rfl (Run.call Tryz.call100 rfl rfl rfl) (k2_ _ _ _ _ _ _ _ _ (hF27.own _ List.mem_cons_self).1 (SlF.st f_s hs26 s_s) (St.sepT hF27 f_s s_s) ?_ ?_) ?_
 · omega
 · omega
 rintro _ whs33 ⟨r28, i29, h30, rfl, hs33, hr31, hi32⟩
 replace hs33 := St.lend1 hF27 hs33
 refine ⟨_, rfl, WL.r 1 hs33 [] rfl (WL.nil (WC.sr (WL.r 1 hs33 [] rfl ?_)))⟩
 have hF34 : St _ _ ([(b_c, _)] ++ _) _ := hs33
 refine WL.call rfl rfl rfl (Run.call Tryz.call100 rfl rfl rfl) (k2_ _ _ _ _ _ _ _ _ (hF34.own _ List.mem_cons_self).1 (SlF.st f_s hs33 s_s) (St.sepT hF34 f_s s_s) ?_ ?_) ?_
 · omega
 · omega
 rintro _ whs40 ⟨r35, i36, h37, rfl, hs40, hr38, hi39⟩
 replace hs40 := St.lend1 hF34 hs40
 refine ⟨_, rfl, WL.r 1 hs40 [] rfl (WL.nil (WC.sr (WL.r 11 hs40 [] rfl (WL.val rfl rfl rfl (Run.rem rfl rfl rfl ?_ ?_) ?_))))⟩
 · omega
 · omega
 refine WL.r 1 hs40 [] rfl (WL.nil (WC.ret (retV1 rfl (resV.tmp rfl) (⟨_, _, _, rfl, hs40, ⟨Int.emod_nonneg _ (by omega), fun h_ => Int.emod_lt_of_pos _ h_⟩, by omega⟩))))
theorem nthL_eq : ∀ (L : Hp) (i : Nat), nthL L i = L[i]?
 | [], _ => rfl
 | _ :: _, 0 => rfl
 | _ :: L, i + 1 => (nthL_eq L i).trans (by simp)
section
variable {P : Program} {w0 w : World} {T : List Nat} {L : Hp} {n : Nat} {ol : List Oper} {o : Oper} {rest : List Oper} {f : Fr} {d : Nat} {K : Fr → World → Prop}
theorem St.neq (h : St w0 T L w) {i j : Nat} {p q : Nat × Obj} (hi : nthL L i = some p) (hj : nthL L j = some q) (hij : i ≠ j) : p.1 ≠ q.1 := by
 intro he
 rw [nthL_eq] at hi hj
 have h1 : (L.map (·.1))[i]? = some p.1 := by rw [List.getElem?_map, hi]; rfl
 have h2 : (L.map (·.1))[j]? = some q.1 := by rw [List.getElem?_map, hj]; rfl
 exact hij ((List.getElem?_inj (List.getElem?_eq_some_iff.1 h1).1 h.nodup).1 (h1.trans (he ▸ h2.symm)))
end
def BM (es : Array MapEntry) (q : Int → Bool) : Prop :=
 (∀ x ∈ es.toList, ∃ n v, x.key = .int .i64 n ∧ x.val = .bool v ∧ q n = v) ∧ (∀ n, q n = true → ∃ x ∈ es.toList, x.key = .int .i64 n)
theorem BM.nil : BM #[] (fun _ => false) := ⟨by simp, by simp⟩
theorem BM.keys {es : Array MapEntry} {q : Int → Bool} (h : BM es q) : ∀ x ∈ es.toList, MapKept.IsKey (.int .i64) x.key := by
 intro x hx
 obtain ⟨n, v, hk, _, _⟩ := h.1 x hx
 rw [hk]; rfl
theorem BM.find {es : Array MapEntry} {q : Int → Bool} (h : BM es q) (n : Int) :
  (Instr.findNow (.int .i64) (.int .i64 n) es.toList 0 = some none ∧ q n = false ∧ ∀ x ∈ es.toList, x.key ≠ .int .i64 n) ∨ ∃ j e, Instr.findNow (.int .i64) (.int .i64 n) es.toList 0 = some (some (j, .bool (q n))) ∧ es[j]? = some e ∧ e.key = .int .i64 n := by
 rcases MapKept.findNow_spec (d := .int .i64) (k := .int .i64 n) rfl es.toList 0 h.keys with ⟨h1, h2⟩ | ⟨j, e, h1, h2, h3⟩
 ·refine .inl ⟨h1, ?_, h2⟩
  cases hq : q n with
  | false => rfl
  | true =>
   obtain ⟨x, hx, hk⟩ := h.2 n hq
   exact absurd hk (h2 x hx)
 ·refine .inr ⟨j, e, ?_, by simpa using h2, h3⟩
  obtain ⟨m, v, hk, hv, hq⟩ := h.1 e (List.mem_of_getElem? h2)
  rw [hk] at h3
  cases h3
  rw [h1, hv, hq, Nat.zero_add]
theorem BM.put {es : Array MapEntry} {q : Int → Bool} (h : BM es q) {n : Int} {v : Bool} {clock : Nat} (hn : ∀ x ∈ es.toList, x.key ≠ .int .i64 n) : BM (es.push { key := .int .i64 n, val := .bool v, born := clock }) (fun m => if m = n then v else q m) := by
 refine ⟨fun x hx => ?_, fun m hm => ?_⟩
 ·simp only [Array.toList_push, List.mem_append, List.mem_singleton] at hx
  rcases hx with hx | rfl
  ·obtain ⟨m, u, hk, hv, hq⟩ := h.1 x hx
   refine ⟨m, u, hk, hv, ?_⟩
   show (if m = n then v else q m) = u
   rw [if_neg (fun e => hn x hx (by rw [hk, e]))]; exact hq
  ·exact ⟨n, v, rfl, rfl, by simp⟩
 ·by_cases he : m = n
  ·subst he
   exact ⟨{ key := .int .i64 m, val := .bool v, born := clock }, by simp, rfl⟩
  ·simp only [if_neg he] at hm
   obtain ⟨x, hx, hk⟩ := h.2 m hm
   exact ⟨x, by simp [hx], hk⟩
theorem BM.set {es : Array MapEntry} {q : Int → Bool} (h : BM es q) {n : Int} {v : Bool} {j : Nat} {e : MapEntry} (hj : es[j]? = some e) (hk : e.key = .int .i64 n) (hu : (es.toList.map (·.key)).Nodup) : BM (es.modify j fun e => { e with key := .int .i64 n, val := .bool v }) (fun m => if m = n then v else q m) := by
 have hmem : ∀ x, x ∈ (es.modify j fun e => { e with key := .int .i64 n, val := .bool v }).toList ↔ ∃ i y, es[i]? = some y ∧ x = if i = j then { y with key := .int .i64 n, val := .bool v } else y := by
  intro x
  rw [Array.mem_toList_iff, Array.mem_iff_getElem?]
  constructor
  ·rintro ⟨i, hi⟩
   rw [Array.getElem?_modify] at hi
   by_cases hij : j = i
   ·rw [if_pos hij] at hi
    obtain ⟨y, hy, rfl⟩ := Option.map_eq_some_iff.1 hi
    exact ⟨i, y, hy, by rw [if_pos hij.symm]⟩
   ·rw [if_neg hij] at hi
    exact ⟨i, x, hi, by rw [if_neg (fun h => hij h.symm)]⟩
  ·rintro ⟨i, y, hy, rfl⟩
   refine ⟨i, ?_⟩
   rw [Array.getElem?_modify]
   by_cases hij : j = i
   ·subst hij; rw [if_pos rfl, hy, if_pos rfl]; rfl
   ·rw [if_neg hij, hy, if_neg (fun h => hij h.symm)]
 have huniq : ∀ (i : Nat) (y : MapEntry), es[i]? = some y → y.key = .int .i64 n → i = j := by
  intro i y hy hky
  have e1 : (es.toList.map (·.key))[i]? = some (.int .i64 n) := by rw [List.getElem?_map, Array.getElem?_toList, hy, ← hky]; rfl
  have e2 : (es.toList.map (·.key))[j]? = some (.int .i64 n) := by rw [List.getElem?_map, Array.getElem?_toList, hj, ← hk]; rfl
  exact (List.getElem?_inj (List.getElem?_eq_some_iff.1 e1).1 hu).1 (e1.trans e2.symm)
 refine ⟨fun x hx => ?_, fun m hm => ?_⟩
 ·obtain ⟨i, y, hy, rfl⟩ := (hmem x).1 hx
  by_cases hij : i = j
  ·rw [if_pos hij]; exact ⟨n, v, rfl, rfl, by simp⟩
  ·rw [if_neg hij]
   obtain ⟨m, u, hk', hv, hq⟩ := h.1 y (by rw [← Array.getElem?_toList] at hy; exact List.mem_of_getElem? hy)
   refine ⟨m, u, hk', hv, ?_⟩
   show (if m = n then v else q m) = u
   rw [if_neg (fun he => hij (huniq i y hy (by rw [hk', he])))]; exact hq
 ·by_cases he : m = n
  ·subst he
   exact ⟨_, (hmem _).2 ⟨j, e, hj, rfl⟩, by rw [if_pos rfl]⟩
  ·simp only [if_neg he] at hm
   obtain ⟨x, hx, hkx⟩ := h.2 m hm
   obtain ⟨i, hi⟩ := List.mem_iff_getElem?.1 hx
   rw [Array.getElem?_toList] at hi
   by_cases hij : i = j
   ·subst hij
    rw [hj] at hi; cases hi
    rw [hk] at hkx; cases hkx; exact absurd rfl he
   ·exact ⟨x, (hmem x).2 ⟨i, x, hi, by rw [if_neg hij]⟩, hkx⟩
section
variable {P : Program} {w0 w : World} {T : List Nat} {L : Hp} {n : Nat} {ol : List Oper} {o : Oper} {rest : List Oper} {f : Fr} {d : Nat} {K : Fr → World → Prop}
theorem Run.addS {t t' : TypeId} {x y : Operand} {a b : ByteArray} (ho : o.op = .binOp .add t x y t') (hx : ev f x = some (.string a)) (hy : ev f y = some (.string b)) (hb : a.size + b.size ≤ 9223372036854775807) : Run P o f w (.value (.string (a ++ b))) w := fun ρ hρ => by
 have h : ¬ (((a.size + b.size : Nat) : Int) > IntKind.i64.max) := by
  have e : IntKind.i64.max = 9223372036854775807 := rfl
  rw [e]; omega
 simp only [Int.natCast_add] at h
 simp [execOp, ho, hρ _ _ hx, hρ _ _ hy, eqGuard, binOp, Op.stringOp, h]
 omega
end
theorem less_cmp : ∀ x y : List UInt8, Op.bytesLess x y = decide (Go.Lib.compareBytes x y < 0)
 | [], [] => rfl
 | _ :: _, [] => by simp [Op.bytesLess, Go.Lib.compareBytes]
 | [], _ :: _ => by simp [Op.bytesLess, Go.Lib.compareBytes]
 | a :: x, b :: y => by
  have ih := less_cmp x y
  unfold Op.bytesLess Go.Lib.compareBytes
  by_cases h1 : a < b
  ·simp [h1]
  ·by_cases h2 : b < a
   ·have : ¬ a = b := by rintro rfl; exact UInt8.lt_irrefl _ h2
    simp [h1, h2, this]
   ·have : a = b := UInt8.le_antisymm (UInt8.not_lt.1 h2) (UInt8.not_lt.1 h1)
    subst this
    simp [h1, ih]
theorem cb_refl : ∀ x : List UInt8, Go.Lib.compareBytes x x = 0
 | [] => rfl
 | a :: x => by unfold Go.Lib.compareBytes; rw [if_neg (UInt8.lt_irrefl a), if_neg (UInt8.lt_irrefl a)]; exact cb_refl x
theorem cb_zero : ∀ {x y : List UInt8}, Go.Lib.compareBytes x y = 0 → x = y
 | [], [], _ => rfl
 | _ :: _, [], h => by simp [Go.Lib.compareBytes] at h
 | [], _ :: _, h => by simp [Go.Lib.compareBytes] at h
 | a :: x, b :: y, h => by
  unfold Go.Lib.compareBytes at h
  by_cases h1 : a < b
  ·simp [h1] at h
  ·by_cases h2 : b < a
   ·simp [h1, h2] at h
   ·have e : a = b := UInt8.le_antisymm (UInt8.not_lt.1 h2) (UInt8.not_lt.1 h1)
    rw [if_neg h1, if_neg h2] at h
    rw [e, cb_zero h]
theorem cb_swap : ∀ x y : List UInt8, Go.Lib.compareBytes x y = - Go.Lib.compareBytes y x
 | [], [] => rfl
 | _ :: _, [] => rfl
 | [], _ :: _ => rfl
 | a :: x, b :: y => by
  unfold Go.Lib.compareBytes
  by_cases h1 : a < b
  ·have h2 : ¬ b < a := fun h => UInt8.lt_irrefl _ (UInt8.lt_trans h1 h)
   simp [h1, h2]
  ·by_cases h2 : b < a
   ·simp [h1, h2]
   ·rw [if_neg h1, if_neg h2, if_neg h2, if_neg h1]; exact cb_swap x y
theorem cb_trans : ∀ {x y z : List UInt8}, Go.Lib.compareBytes x y < 0 → Go.Lib.compareBytes y z < 0 → Go.Lib.compareBytes x z < 0
 | [], [], _, h, _ => absurd h (by decide)
 | _ :: _, [], _, h, _ => absurd h (by simp [Go.Lib.compareBytes])
 | [], _ :: _, [], _, h => absurd h (by simp [Go.Lib.compareBytes])
 | [], _ :: _, _ :: _, _, _ => by simp [Go.Lib.compareBytes]
 | _ :: _, _ :: _, [], _, h => absurd h (by simp [Go.Lib.compareBytes])
 | a :: x, b :: y, c :: z, h1, h2 => by
  unfold Go.Lib.compareBytes at h1 h2 ⊢
  by_cases ab : a < b
  ·by_cases bc : b < c
   ·rw [if_pos (UInt8.lt_trans ab bc)]; decide
   ·rw [if_neg bc] at h2
    by_cases cb : c < b
    ·rw [if_pos cb] at h2; exact absurd h2 (by decide)
    ·have e : b = c := UInt8.le_antisymm (UInt8.not_lt.1 cb) (UInt8.not_lt.1 bc)
     subst e
     rw [if_pos ab]; decide
  ·rw [if_neg ab] at h1
   by_cases ba : b < a
   ·rw [if_pos ba] at h1; exact absurd h1 (by decide)
   ·have e : a = b := UInt8.le_antisymm (UInt8.not_lt.1 ba) (UInt8.not_lt.1 ab)
    subst e
    rw [if_neg ba] at h1
    by_cases bc : a < c
    ·rw [if_pos bc]; decide
    ·rw [if_neg bc] at h2 ⊢
     by_cases cb : c < a
     ·rw [if_pos cb] at h2; exact absurd h2 (by decide)
     ·rw [if_neg cb] at h2 ⊢
      exact cb_trans h1 h2
def cmpS (a b : ByteArray) : Int := Go.Lib.compareBytes a.data.toList b.data.toList
theorem cmpS_refl (a : ByteArray) : cmpS a a = 0 := cb_refl _
theorem cmpS_zero {a b : ByteArray} : cmpS a b = 0 ↔ a = b := by
 constructor
 ·intro h
  have := cb_zero h
  cases a; cases b
  simp_all [Array.toList_inj]
 ·rintro rfl; exact cmpS_refl _
theorem cmpS_swap (a b : ByteArray) : cmpS a b = - cmpS b a := cb_swap _ _
theorem cmpS_trans {a b c : ByteArray} (h1 : cmpS a b < 0) (h2 : cmpS b c < 0) : cmpS a c < 0 := cb_trans h1 h2
variable {P : Program} {f : Fr} {w : World} {o : Oper}
theorem Run.geqT {t t' : TypeId} {x y : Operand} {a b : ByteArray} (ho : o.op = .binOp .geq t x y t') (hx : ev f x = some (.string a)) (hy : ev f y = some (.string b)) : Run P o f w (.value (.bool (decide (0 ≤ cmpS a b)))) w := fun ρ hρ => by
 have e : decide (0 ≤ cmpS a b) = !Op.bytesLess a.toList b.toList := by
  rw [less_cmp, ByteArray.toList_eq, ByteArray.toList_eq]
  show decide (0 ≤ Go.Lib.compareBytes _ _) = !decide (Go.Lib.compareBytes a.data.toList b.data.toList < 0)
  rw [Bool.eq_iff_iff]; simp
 rw [e]
 simp [execOp, ho, hρ _ _ hx, hρ _ _ hy, eqGuard, binOp, Op.stringOp]
theorem Run.gtrT {t t' : TypeId} {x y : Operand} {a b : ByteArray} (ho : o.op = .binOp .gtr t x y t') (hx : ev f x = some (.string a)) (hy : ev f y = some (.string b)) : Run P o f w (.value (.bool (decide (0 < cmpS a b)))) w := fun ρ hρ => by
 have e : decide (0 < cmpS a b) = !(Op.bytesLess a.toList b.toList || (a.toList == b.toList)) := by
  rw [toList_inj, less_cmp, ByteArray.toList_eq, ByteArray.toList_eq]
  have h := cmpS_zero (a := a) (b := b)
  have e2 : Go.Lib.compareBytes a.data.toList b.data.toList = cmpS a b := rfl
  rw [e2, Bool.eq_iff_iff]
  simp only [decide_eq_true_eq, Bool.not_eq_true', Bool.or_eq_false_iff, decide_eq_false_iff_not, ← h]
  omega
 rw [e]
 simp [execOp, ho, hρ _ _ hx, hρ _ _ hy, eqGuard, binOp, Op.stringOp]
def AnyF {α : Type} (w0 : World) (F : Enc α) (et : Nat) (v : Value) (xs : List α) (L : Hp) : Prop := OwnF F et v xs L ∨ ∃ A n c, v = .slice A n c ∧ L = [] ∧ SlF F w0 A n xs
theorem AnyF.of {α : Type} {w0 : World} {F : Enc α} {et : Nat} {v : Value} {xs : List α} {L : Hp} (h : OwnF F et v xs L) : AnyF w0 F et v xs L := .inl h
theorem AnyF.rdo {α : Type} {w0 : World} {F : Enc α} {et : Nat} {A : Option Addr} {n c : Nat} {xs : List α} (f : SlF F w0 A n xs) : AnyF w0 F et (.slice A n c) xs [] := .inr ⟨A, n, c, rfl, rfl, f⟩
theorem AnyF.rd {α : Type} {w0 w : World} {F : Enc α} {et : Nat} {A : Option Addr} {n c : Nat} {xs : List α} {L L' : Hp} (h : AnyF w0 F et (.slice A n c) xs L) (hs : St w0 [] L' w) (hh : ∀ p, p ∈ L → w.heap[p.1]? = some p.2) : SlF F w A n xs := by
 rcases h with h | ⟨A', n', c', e, _, f⟩
 ·exact SlF.ofOwn h hh
 ·cases e; exact SlF.st0 f hs
theorem AnyF.cap {α : Type} {w0 : World} {F : Enc α} {et : Nat} {A : Option Addr} {n c : Nat} {xs : List α} {L : Hp} (h : AnyF w0 F et (.slice A n c) xs L) : xs.length = n := by
 rcases h with h | ⟨A', n', c', e, _, f⟩
 ·exact OwnF.len_ h
 ·cases e; exact f.len
open Go Go.RowKit Go.Shelf
theorem frozen_of_heap {w : World} {b k : Nat} {cl : List Value} {e : TypeId} {lo hi : Nat} (h : w.heap[b]? = some (.cells cl.toArray e (lo, hi))) (hf : hi ≤ lo ∨ hi ≤ k ∨ k < lo) : w.frozen? ⟨b, k, none⟩ = false := by
 simp only [World.frozen?, h, Bool.and_eq_false_iff, decide_eq_false_iff_not]
 omega
section
variable {α : Type} {F : Enc α} {e : TypeId} {A : Option Addr} {m c k : Nat} {xs : List α} {L : Hp}
theorem OwnF.short (h : OwnF F e (.slice A c c) xs L) (hk : k ≤ c) : OwnF F e (.slice A k c) (xs.take k) L := OwnF.take h hk
theorem zeroCells_rows {z : Value} (h : F.enc F.dflt = cellsOf z) (k : Nat) : (Builtin.zeroCells z.cells k).toList = rows F (List.replicate k F.dflt) := by rw [zeros_rows h.symm]
end
section
variable {P : Program} {n : Nat} {ol rest : List Oper} {o : Oper} {K : Fr → World → Prop} {f : Fr} {w0 w : World} {T : List Nat} {L R L1 : Hp} {d : Nat} {α : Type} {F : Enc α} {xs ys : List α} {A : Option Addr} {m c : Nat}
theorem WL.growZ (i0 k : Nat) (hst : St w0 T (L1 ++ R) w) {t tx e : TypeId} {i : TypeInfo} {z : Value} {x y : Operand} {q : Int} (hown : OwnF F e (.slice A m c) xs L1) (ht : P.underlying t = some (.slice e)) (htx : P.underlying tx = some (.int .i64)) (hi : P.info? e = some i) (hz : i.zero = some z) (hs1 : Nat.beq i.size F.sz = true) (hs2 : Nat.ble i.bytes 512 = true) (hdz : F.enc F.dflt = cellsOf z)
  (ho : o.op = .call { callee := .builtin .append, args := #[x, y], argTypes := #[t, tx] }) (hw : want ol o f = some true) (hd : o.dst = some d) (hn : Nat.blt d n = true) (hx : ev f x = some (.slice A i0 c)) (hy : ev f y = some (.int .i64 q)) (hq : q = (k : Int)) (h0 : 0 < k) (hi0 : i0 ≤ m) (hg : c < i0 + k) (hb : i0 + k ≤ 274877906944)
  (kk : ∀ A2 c2 L2 w', St w0 T (L2 ++ (L1 ++ R)) w' → OwnF F e (.slice A2 (i0 + k) c2) (xs.take i0 ++ List.replicate k F.dflt) L2 → WL P n ol rest K ((d, .slice A2 (i0 + k) c2) :: f) w') : WL P n ol (o :: rest) K f w := by
 subst hq
 have hs1' := Nat.eq_of_beq_eq_true hs1
 have hs2' := Nat.le_of_ble_eq_true hs2
 have hl := hown.len_
 have hti : (xs.take i0).length = i0 := by rw [List.length_take]; omega
 have hge := grownCap_ge w (i0 + k) c e
 have hcm : grownCap w (i0 + k) c e ≤ maxLen := grownCap_le_maxLen w (i0 + k) c e (by simp only [maxLen]; omega)
 have hbb : (i0 + k) * i.bytes ≤ 274877906944 * 512 := Nat.mul_le_mul hb hs2'
 have hkb : k * i.bytes ≤ (i0 + k) * i.bytes := Nat.mul_le_mul_right _ (by omega)
 have hfit : Builtin.nextslicecap (i0 + k) c * i.bytes ≤ 281474976710656 := growslice_fits hg (by omega)
 have hold : (Builtin.firstCells i.size i0 (.slice A i0 c)).run P w.drew = .ok (rows F (xs.take i0)).toArray w.drew := by
  rcases Nat.eq_zero_or_pos i0 with rfl | hp
  ·rw [List.take_zero]
   cases A <;> simp [Builtin.firstCells, loadCells, loadCellsFrom, rows]
  ·have hf : SlF F w.drew A m xs := SlF.ofOwn hown (fun p hp => (hst.drew.own p (List.mem_append_left _ hp)).1)
   obtain ⟨⟨g, off, sp⟩, rfl⟩ := Option.isSome_iff_exists.1 (hf.rd.some_ (by omega))
   have h1 := hf.rd.lds (P := P) (j := 0) (m := i0 * F.sz) (us := rows F (xs.take i0)) (by rw [List.drop_zero, rows_take]) (by rw [rows_len, hti])
   rw [← hs1'] at h1
   have h2 : ((adr (some (⟨g, off, sp⟩ : Addr))).add 0) = ⟨g, off, sp⟩ := by cases sp <;> rfl
   rw [h2] at h1
   simpa [Builtin.firstCells] using h1
 have hr := Go.Lib.run_append_grow_zeros (P := P) w t tx o.type e i z .i64 .i64 ht htx hi hz A i0 c _ hold k h0 (by rw [hs1']; exact F.pos) hg (by omega) (by omega) hfit
 generalize hC : grownCap w (i0 + k) c e = C at hr hge hcm
 have hz1 := zeroCells_rows hdz k
 have hz2 := zeroCells_rows hdz (C - (i0 + k))
 have ec : ((rows F (xs.take i0)).toArray ++ Builtin.zeroCells z.cells k ++ Builtin.zeroCells z.cells (C - (i0 + k))) = (rows F (xs.take i0 ++ List.replicate k F.dflt) ++ rows F (List.replicate (C - (i0 + k)) F.dflt)).toArray := by
  apply Array.toList_inj.1
  rw [Array.toList_append, Array.toList_append, hz1, hz2, rows_append]
 rw [ec] at hr
 refine WL.val (w' := _) hw hd hn (fun ρ hρ => ?_) (kk (some ⟨w.heap.size, 0, none⟩) C [(w.heap.size, .cells (rows F (xs.take i0 ++ List.replicate k F.dflt) ++ rows F (List.replicate (C - (i0 + k)) F.dflt)).toArray e (0, 0))] _ (hst.drew.alloc _) ?_)
 ·simp [execOp, ho, hρ _ _ hx, hρ _ _ hy, resolve, invoke, builtin, hr]
 ·have hll : (xs.take i0 ++ List.replicate k F.dflt).length = i0 + k := by rw [List.length_append, hti, List.length_replicate]
  refine ⟨rows_len _, .inr ⟨w.heap.size, C, 0, [], _, (0, 0), by rw [hll], rfl, by rw [hll]; exact hge, hcm, ?_, ?_, .inl (Nat.le_refl _), rfl⟩⟩
  ·show (rows F (xs.take i0 ++ List.replicate k F.dflt) ++ rows F (List.replicate (C - (i0 + k)) F.dflt)).length = C * F.sz
   rw [List.length_append, rows_len, rows_len, hll, List.length_replicate, ← Nat.add_mul]
   congr 1; omega
  ·exact List.take_left' (rows_len _)
theorem WL.appendFull (hst : St w0 T L w) {t tx e : TypeId} {i : TypeInfo} {z x : Value} {s y : Operand} (hs : Src P F.sz tx x ys.length (rows F ys) w) (ht : P.underlying t = some (.slice e)) (hi : P.info? e = some i) (hz : i.zero = some z) (hs1 : Nat.beq i.size F.sz = true) (hs2 : Nat.ble i.bytes 512 = true) (hdz : F.enc F.dflt = cellsOf z)
  (ho : o.op = .call { callee := .builtin .append, args := #[s, y], argTypes := #[t, tx] }) (hw : want ol o f = some true) (hd : o.dst = some d) (hn : Nat.blt d n = true) (hx : ev f s = some (.slice A 0 0)) (hy : ev f y = some x) (hb : ys.length ≤ 274877906944)
  (kk : ∀ A2 c2 L2 w', St w0 T (L2 ++ L) w' → ys.length ≤ c2 → OwnF F e (.slice A2 c2 c2) (ys ++ List.replicate (c2 - ys.length) F.dflt) L2 → WL P n ol rest K ((d, .slice A2 ys.length c2) :: f) w') : WL P n ol (o :: rest) K f w := by
 have hs1' := Nat.eq_of_beq_eq_true hs1
 have hs2' := Nat.le_of_ble_eq_true hs2
 rw [← hs1'] at hs
 rcases Nat.eq_zero_or_pos ys.length with h0 | h0
 ·obtain rfl : ys = [] := List.eq_nil_of_length_eq_zero h0
  have hst0 : ∀ a, (storeCells a []).run P w = .ok () w := fun a => by simp [storeCells]
  have hr : (Builtin.append_ #[t, tx] o.type #[.slice A 0 0, x]).run P w = .ok (.slice A 0 0) w := by
   have hs0 : Src P i.size tx x 0 [] w := hs
   have hl := hs0.len
   have hc := hs0.cells
   cases A <;> rcases hs0.kind with ⟨e', hk⟩ | hk <;> simp [Builtin.append_, run_underlying ht, run_underlying hk, sizeOf, typeInfo, hi, hl, hc, hst0]
  refine WL.val (w' := w) hw hd hn (fun ρ hρ => ?_) (kk A 0 [] w hst (Nat.le_refl _) (OwnF.nilA F e A))
  simp [execOp, ho, hρ _ _ hx, hρ _ _ hy, resolve, invoke, builtin, hr]
 have hge := grownCap_ge w (0 + ys.length) 0 e
 have hcm : grownCap w (0 + ys.length) 0 e ≤ maxLen := grownCap_le_maxLen w (0 + ys.length) 0 e (by simp only [maxLen]; omega)
 have hbb : ys.length * i.bytes ≤ 274877906944 * 512 := Nat.mul_le_mul hb hs2'
 have hfit : Builtin.nextslicecap (0 + ys.length) 0 * i.bytes ≤ 281474976710656 := growslice_fits (by omega) (by rw [Nat.zero_add]; omega)
 have hold : (Builtin.firstCells i.size 0 (.slice A 0 0)).run P w.drew = .ok ([] : List Value).toArray w.drew := by cases A <;> simp [Builtin.firstCells, loadCells, loadCellsFrom]
 have hr := run_append_grow_src (P := P) w t tx o.type e i z ht hi hz A 0 0 [] hold x ys.length _ hs (by omega) (by omega) hfit
 rw [Nat.zero_add] at hr hge hcm
 generalize hC : grownCap w ys.length 0 e = C at hr hge hcm
 have hz2 := zeroCells_rows hdz (C - ys.length)
 have ec : (([] ++ rows F ys).toArray ++ Builtin.zeroCells z.cells (C - ys.length)) = (rows F (ys ++ List.replicate (C - ys.length) F.dflt)).toArray := by
  apply Array.toList_inj.1
  rw [Array.toList_append, hz2, rows_append]; rfl
 rw [ec] at hr
 refine WL.val (w' := _) hw hd hn (fun ρ hρ => ?_) (kk (some ⟨w.heap.size, 0, none⟩) C [(w.heap.size, .cells (rows F (ys ++ List.replicate (C - ys.length) F.dflt)).toArray e (0, 0))] _ (hst.drew.alloc _) hge ?_)
 ·simp [execOp, ho, hρ _ _ hx, hρ _ _ hy, resolve, invoke, builtin, hr]
 ·exact OwnF.row (by rw [List.length_append, List.length_replicate]; omega) hcm
end
theorem overlaps_own {P : Program} {w : World} {tS tR e : TypeId} {sz b m c lb cb lo : Nat} {α : Type} {F : Enc α} {xs : List α} {A : Option Addr} {L : Hp} {vs : List Value} (ht : P.underlying tS = some (.slice e)) (hz : ∀ w, (Go.sizeOf e).run P w = .ok sz w) (hv : w.heap[b]? = some (.cells vs.toArray e (0, 0))) (hown : OwnF F e (.slice A m c) xs L) (hh : ∀ p, p ∈ L → w.heap[p.1]? = some p.2) (hb : b ∉ L.map (·.1)) (h0 : 0 < m) :
  (Extern.SlicesOverlaps.overlaps #[tS, tS] #[tR] #[.slice (some ⟨b, 0, none⟩) 1 1, .slice (cutA A lo F.sz c) lb cb]).run P w = .ok (.bool false) w := by
 have hl := hown.len_
 rcases hown.2 with ⟨_, h1, _⟩ | ⟨g, cap, o, pre, cl, fz, hvv, rfl, hn, hc, hcl, htk, hfz, rfl⟩
 ·omega
 ·cases hvv
  have hg := hh _ List.mem_cons_self
  have hne : b ≠ g := fun e => hb (by simp [e])
  obtain ⟨off, hoff⟩ : ∃ off, cutA (some (⟨g, pre.length, none⟩ : Addr)) lo F.sz c = some ⟨g, off, none⟩ := by
   unfold cutA
   split
   ·exact ⟨_, rfl⟩
   ·exact ⟨pre.length + lo * F.sz, by simp [addr_at]⟩
  rw [hoff]
  have hp := F.pos
  have hcp : 0 < cl.length := by rw [hcl]; exact Nat.mul_pos (by omega) hp
  exact Go.Lib.run_overlaps_apart w tS tR e ht sz hz ⟨b, 0, none⟩ ⟨g, off, none⟩ 1 1 lb cb hne e e vs.length (pre ++ cl).length (by simp [World.shape?, hv]) (by simp [World.shape?, hg]) (by rw [List.length_append]; omega) (frozen_of_heap hv (by omega)) (frozen_of_heap hv (by omega))
theorem Run.ext1 {P : Program} {f : Fr} {w : World} {o : Oper} {v : Value} {fo : Operand} {args : Array Operand} {ts : Array TypeId} {g : FuncId} {vl : List Value} (hc : (callFunc g vl.toArray).run P w = .ok (.value v) w) (ho : o.op = .call { callee := .value fo, args := args, argTypes := ts })
  (hfo : ev f fo = some (.func (.func g) #[] #[])) (hv : evs f args.toList = some vl) : Run P o f w (.value v) w := fun ρ hρ => by
 have e : args.map ρ = vl.toArray := by apply Array.toList_inj.1; rw [Array.toList_map, evs_map hρ hv]
 simp [execOp, ho, resolve, hρ _ _ hfo, Deferred.ofValue, invoke, hc, e]
theorem OwnF.relen {α : Type} {F : Enc α} {e : TypeId} {A : Option Addr} {n n' c : Nat} {xs : List α} {L : Hp} (h : OwnF F e (.slice A n c) xs L) (hn : n = n') : OwnF F e (.slice A n' c) xs L := hn ▸ h
theorem SlF.varF {α : Type} {F : Enc α} {w : World} {b off : Nat} {x : α} {v : Value} (h : SlF F w (some ⟨b, 0, none⟩) 1 [x]) (hv : (F.enc x)[off]? = some v) : w.cell? ⟨b, off, none⟩ = some v := by
 have h1 := SlF.fld (k := 0) (off := off) h (by omega) (v := v) hv
 have e : ((adr (some (⟨b, 0, none⟩ : Addr))).add (0 * F.sz)).add off = ⟨b, off, none⟩ := by
  rw [Nat.zero_mul]
  show Addr.add (Addr.add ⟨b, 0, none⟩ 0) off = _
  simp [Addr.add]; exact fun h => h.symm
 rwa [e] at h1
def encP : Enc Nat := ⟨1, fun b => [.pointer (some ⟨b, 0, none⟩)], 0, fun _ => rfl, fun x v h => by simp at h; subst h; rfl, by decide⟩
theorem Bag.filt {α : Type} {own : α → Hp → Prop} (p : α → Bool) : ∀ {xs : List α} {Lb : Hp}, Bag own xs Lb → ∃ Lb', Lb'.Sublist Lb ∧ Bag own (xs.filter p) Lb'
 | [], Lb, b => ⟨Lb, List.Sublist.refl _, b⟩
 | x :: r, Lb, b => by
  obtain ⟨L1, L2, rfl, h1, h2⟩ := b
  obtain ⟨L3, h3, h4⟩ := Bag.filt p h2
  cases hp : p x with
  | true => exact ⟨L1 ++ L3, List.Sublist.append_left h3 L1, by rw [List.filter_cons_of_pos hp]; exact ⟨L1, L3, rfl, h1, h4⟩⟩
  | false => exact ⟨L3, h3.trans (sR _), by rw [List.filter_cons_of_neg (by rw [hp]; decide)]; exact h4⟩
theorem Bag.keep {α : Type} {own : α → Hp → Prop} {w0 w : World} {T : List Nat} {R Lb : Hp} {xs : List α} (p : α → Bool) (hs : St w0 T (Lb ++ R) w) (b : Bag own xs Lb) : ∃ Lb', St w0 T (Lb' ++ R) w ∧ Bag own (xs.filter p) Lb' := by
 obtain ⟨Lb', h1, h2⟩ := Bag.filt p b
 exact ⟨Lb', hs.drop (List.Sublist.append_right h1 R), h2⟩
theorem WC.jR2 {P : Program} {n : Nat} {c : Code} {Q : Kont} {f F : Fr} {w0 w : World} {T : List Nat} {R : Hp} (d d2 : Nat) (v2 : Value) (is : List Nat) (hF : rstr is f = some F) (hst : St w0 T R w) (X : Obj → Hp → Prop)
  (h : WC P n c (fun e f' w' => e = .normal ∧ ∃ b o L1, St w0 T ((b, o) :: (L1 ++ R)) w' ∧ X o L1 ∧ Sub ((d, .pointer (some ⟨b, 0, none⟩)) :: (d2, v2) :: F) f') f w)
  (k : ∀ b o L1 w', X o L1 → St w0 T ((b, o) :: (L1 ++ R)) w' → ∀ f', Sub ((d, .pointer (some ⟨b, 0, none⟩)) :: (d2, v2) :: F) f' → Q .normal f' w') : WC P n c Q f w :=
 WC.join _ h fun f' w' ⟨b, o, L1, h1, h2, h3⟩ => k b o L1 w' h2 h1 f' h3
section
variable {P : Program} {o : Oper} {f : Fr} {w : World} {t t' : TypeId} {x y : Operand}
theorem wrap_u32 {n : Nat} (h : n < 4294967296) : IntKind.u32.wrap (n : Int) = (n : Int) := by
 simp [IntKind.wrap, IntKind.bits, IntKind.signed]; omega
theorem Run.xorU (a b : Nat) (ho : o.op = .binOp .xor t x y t') (hx : ev f x = some (.int .u32 (a : Int))) (hy : ev f y = some (.int .u32 (b : Int))) (ha : a < 4294967296) (hb : b < 4294967296) : Run P o f w (.value (.int .u32 ((a ^^^ b : Nat) : Int))) w := fun ρ hρ => by
 have e : (BitVec.ofNat 32 a ^^^ BitVec.ofNat 32 b).toNat = a ^^^ b := by rw [BitVec.toNat_xor, BitVec.toNat_ofNat, BitVec.toNat_ofNat, Nat.mod_eq_of_lt (show a < 2 ^ 32 from ha), Nat.mod_eq_of_lt (show b < 2 ^ 32 from hb)]
 have e2 := wrap_u32 (Nat.xor_lt_two_pow (n := 32) ha hb)
 simp [execOp, ho, hρ _ _ hx, hρ _ _ hy, eqGuard, binOp, Op.intBits, IntKind.bits]
 exact (congrArg (fun n : Nat => IntKind.u32.wrap (n : Int)) e).trans e2
theorem Run.and1 (a : Nat) (ho : o.op = .binOp .and t x y t') (hx : ev f x = some (.int .u32 (a : Int))) (hy : ev f y = some (.int .u32 1)) (ha : a < 4294967296) : Run P o f w (.value (.int .u32 ((a % 2 : Nat) : Int))) w := fun ρ hρ => by
 have e : (BitVec.ofNat 32 a &&& 1#32).toNat = a % 2 := by rw [BitVec.toNat_and, BitVec.toNat_ofNat, Nat.mod_eq_of_lt (show a < 2 ^ 32 from ha), show (1#32).toNat = 2 ^ 1 - 1 from rfl, Nat.and_two_pow_sub_one_eq_mod]
 have e2 := wrap_u32 (n := a % 2) (by omega)
 simp [execOp, ho, hρ _ _ hx, hρ _ _ hy, eqGuard, binOp, Op.intBits, IntKind.bits]
 exact (congrArg (fun n : Nat => IntKind.u32.wrap (n : Int)) e).trans e2
theorem Run.shr1 (a : Nat) {k : IntKind} (ho : o.op = .binOp .shr t x y t') (hx : ev f x = some (.int .u32 (a : Int))) (hy : ev f y = some (.int k 1)) : Run P o f w (.value (.int .u32 ((a / 2 : Nat) : Int))) w := fun ρ hρ => by
 have e3 : (a : Int).fdiv (2 ^ 1) = ((a / 2 : Nat) : Int) := by
  rw [Int.fdiv_eq_ediv_of_nonneg _ (by decide)]; simp
 simp [execOp, ho, hρ _ _ hx, hρ _ _ hy, eqGuard, binOp, Op.shift, IntKind.bits]
 simpa using e3
theorem Run.notU (a : Nat) (ho : o.op = .unOp .xor t x) (hx : ev f x = some (.int .u32 (a : Int))) (ha : a < 4294967296) : Run P o f w (.value (.int .u32 ((4294967295 ^^^ a : Nat) : Int))) w := fun ρ hρ => by
 have e : (BitVec.ofInt 32 4294967295 ^^^ BitVec.ofNat 32 a).toNat = 4294967295 ^^^ a := by rw [BitVec.toNat_xor, BitVec.toNat_ofNat, Nat.mod_eq_of_lt (show a < 2 ^ 32 from ha)]; rfl
 have e2 := wrap_u32 (Nat.xor_lt_two_pow (n := 32) (x := 4294967295) (by decide) ha)
 simp [execOp, ho, hρ _ _ hx, Op.unary, Op.intBits, IntKind.bits, IntKind.signed, IntKind.max]
 exact (congrArg (fun n : Nat => IntKind.u32.wrap (n : Int)) e).trans e2
end
set_option autoImplicit false
set_option relaxedAutoImplicit false
section
variable {P : Program} {o : Oper} {f : Fr} {w : World} {t t' : TypeId} {x y : Operand}
def errOf (T : TypeId) (N : Nat) (b : Bool) : Value := if b then .nilIface else .iface T (.pointer (some ⟨N, 0, none⟩))
theorem equalIn_ifn {d : Nat} {w : World} {ms} (hu : P.underlying t = some (.interface ms)) : (Op.equalIn (d + 1) t .nilIface .nilIface).run P w = .ok true w := by
 simp [Op.equalIn, run_underlying hu]
theorem equalIn_ifi {d : Nat} {w : World} {ms} {T : TypeId} {v : Value} (hu : P.underlying t = some (.interface ms)) : (Op.equalIn (d + 1) t (.iface T v) .nilIface).run P w = .ok false w := by
 simp [Op.equalIn, run_underlying hu]
theorem Run.neqI {ms} {T N : Nat} {b : Bool} (hu : P.underlying t = some (.interface ms)) (ho : o.op = .binOp .neq t x (.const .nilIface) t') (hx : ev f x = some (errOf T N b)) : Run P o f w (.value (.bool (!b))) w := fun ρ hρ => by
 have h3 : ρ (.const .nilIface) = .nilIface := hρ _ _ rfl
 cases b with
 | true =>
  have h1 : (binOp .neq t .nilIface .nilIface).run P w = .ok (.bool false) w := by
   simp only [binOp]
   simp [Op.equal, Op.maxDepth, equalIn_ifn hu]
  have h2 : ρ x = .nilIface := hρ _ _ hx
  simp [execOp, ho, h2, h3, eqGuard, h1]
 | false =>
  have h1 : (binOp .neq t (.iface T (.pointer (some ⟨N, 0, none⟩))) .nilIface).run P w = .ok (.bool true) w := by
   simp only [binOp]
   simp [Op.equal, Op.maxDepth, equalIn_ifi hu]
  have h2 : ρ x = .iface T (.pointer (some ⟨N, 0, none⟩)) := hρ _ _ hx
  simp [execOp, ho, h2, h3, eqGuard, h1]
theorem Run.sliceStrL {k : IntKind} {a : Int} (lo : Nat) {s : ByteArray} (hu : ∀ w, (underlying t).run P w = .ok .string w) (ho : o.op = .slice t x (some y) none none) (hx : ev f x = some (.string s)) (hy : ev f y = some (.int k a))
  (ha : a = (lo : Int)) (h : lo ≤ s.size) : Run P o f w (.value (.string (s.extract lo s.size))) w := fun ρ hρ => by
 subst ha
 simp [execOp, ho, hρ _ _ hx, hρ _ _ hy, Instr.sliceAt, Instr.slice, Instr.sliceBounds, Instr.sliceBound, asIntOf, hu, h]
end
theorem St.apart {w w' : World} {L : Hp} (hs : St w [] L w') {g : Nat} (hg : g < w.heap.size) : g ∉ L.map (·.1) := by
 intro hm
 obtain ⟨p, hp, rfl⟩ := List.mem_map.1 hm
 rcases (hs.own p hp).2 with h | h
 ·omega
 ·exact absurd h List.not_mem_nil
set_option autoImplicit false
set_option relaxedAutoImplicit false
section
variable {P : Program} {fn : Func} {R : Ending → World → Prop} {f : Fr} {w : World} {v1 v2 v3 v4 v5 : Value}
theorem retV4 {t1 t2 t3 t4 : Nat} (hr : fn.results = #[.tmp t1, .tmp t2, .tmp t3, .tmp t4]) (h1 : resV P f w (.tmp t1) v1) (h2 : resV P f w (.tmp t2) v2) (h3 : resV P f w (.tmp t3) v3) (h4 : resV P f w (.tmp t4) v4) (h : R (.returned (.tuple #[v1, v2, v3, v4])) w) : retK P fn R .ret f w :=
 ⟨.inr rfl, _, fun tmps ht => by
  have a1 := ht _ _ h1; have a2 := ht _ _ h2; have a3 := ht _ _ h3; have a4 := ht _ _ h4
  clear h1 h2 h3 h4
  simp_all [results, asAddr], h⟩
theorem retV5 {t1 t2 t3 t4 t5 : Nat} (hr : fn.results = #[.tmp t1, .tmp t2, .tmp t3, .tmp t4, .tmp t5]) (h1 : resV P f w (.tmp t1) v1) (h2 : resV P f w (.tmp t2) v2) (h3 : resV P f w (.tmp t3) v3) (h4 : resV P f w (.tmp t4) v4) (h5 : resV P f w (.tmp t5) v5) (h : R (.returned (.tuple #[v1, v2, v3, v4, v5])) w) : retK P fn R .ret f w :=
 ⟨.inr rfl, _, fun tmps ht => by
  have a1 := ht _ _ h1; have a2 := ht _ _ h2; have a3 := ht _ _ h3; have a4 := ht _ _ h4; have a5 := ht _ _ h5
  clear h1 h2 h3 h4 h5
  simp_all [results, asAddr], h⟩
end
theorem WC.jRC {P : Program} {n : Nat} {cd : Code} {Q : Kont} {f F : Fr} {w0 w : World} {T : List Nat} {R : Hp} {c : Nat} {p0 : Obj} (d : Nat) (is : List Nat) (hF : rstr is f = some F) (hst : St w0 T ((c, p0) :: R) w) (X : Obj → Obj → Hp → Prop)
  (h : WC P n cd (fun e f' w' => e = .normal ∧ ∃ b o p L1, St w0 T ((b, o) :: (c, p) :: (L1 ++ R)) w' ∧ X o p L1 ∧ Sub ((d, .pointer (some ⟨b, 0, none⟩)) :: F) f') f w)
  (k : ∀ b o p L1 w', X o p L1 → St w0 T ((b, o) :: (c, p) :: (L1 ++ R)) w' → ∀ f', Sub ((d, .pointer (some ⟨b, 0, none⟩)) :: F) f' → Q .normal f' w') : WC P n cd Q f w :=
 WC.join _ h fun f' w' ⟨b, o, p, L1, h1, h2, h3⟩ => k b o p L1 w' h2 h1 f' h3
set_option maxHeartbeats 2000000 in
theorem k4_ (b_c : Nat) (A_s : Option Addr) (n_s c_s : Nat) (s : List UInt8) (i h : Int) (most : Int) (w : World) (hc : w.heap[b_c]? = some (Obj.cells (List.toArray [.slice A_s n_s c_s, i64 (i), i64 (h)]) 118 (0, 0))) (f_s : SlF encB w A_s n_s s) (s_s : 0 < n_s → (adr A_s).block ∉ [b_c]) (hn : n_s ≤ 1099511627776) (hi : 0 ≤ i ∧ i ≤ n_s) (hm : 0 ≤ most ∧ most ≤ 100) :
    Calls Tryz.prog 51 #[.pointer (some ⟨b_c, 0, none⟩), i64 most] w fun e w' => ∃ (A : Option Addr) (c : Nat) (zs : List UInt8) (L1 : Hp) (i' h' : Int), e = .returned (.slice A zs.length c) ∧ St w [b_c] ((b_c, Obj.cells (List.toArray [.slice A_s n_s c_s, i64 (i'), i64 (h')]) 118 (0, 0)) :: L1) w' ∧ OwnF encB 5 (.slice A zs.length c) zs L1 ∧ (zs.length : Int) ≤ most ∧ (0 ≤ i' ∧ i' ≤ n_s) := by
 have hl := f_s.len
 refine enter 25 Tryz.func51 rfl Tryz.ntmps51 rfl rfl ?_
 have hs1 := St.take1 w b_c _ hc
 refine WC.r1 hs1 [] rfl (WC.sr (WL.r 3 hs1 [] rfl ?_))
 have hF2 : St _ _ ([(b_c, _)] ++ _) _ := hs1
 refine WL.call rfl rfl rfl (Run.call Tryz.call50 rfl rfl rfl) (k3_ _ _ _ _ _ _ _ _ _ (hF2.own _ List.mem_cons_self).1 (SlF.st f_s hs1 s_s) (St.sepT hF2 f_s s_s) ?_ ?_) ?_
 · omega
 · omega
 rintro _ whs8 ⟨r3, i4, h5, rfl, hs8, hr6, hi7⟩
 replace hs8 := St.lend1 hF2 hs8
 try have hbhr6 := hr6.2 (by omega)
 refine ⟨_, rfl, WL.r 1 hs8 [] rfl (WL.nil (WC.sr (WL.buildF (F := encB) hs8 ([]) Tryz.runUnderlying43 Tryz.sizeOf5 Tryz.zeroValue5 rfl rfl rfl rfl rfl rfl rfl rfl rfl rfl rfl rfl (fun A12 c13 L9 whs10 hs10 ho11 => ?_))))⟩
 replace hs10 := St.back [_] hs10
 refine WL.r 1 hs10 [] rfl (WL.nil (WC.seq (fun K14 hK14 => WC.r1 hs10 [] rfl (WC.block ?_))))
 have hM19 := (St.grp1 (L1 := L9) [_] ((hs10.fr L9).fb b_c))
 refine WC.lV [0, 4, 5] rfl hM19 (fun k_ (a_ : Hp) f => ∃ (j : Nat) (i1 h1 : Int) (zs : List UInt8) (A15 : Option Addr) (c16 : Nat) (L17 : Hp), k_ = r3.toNat - j ∧ a_ = [(b_c, .cells (List.toArray [.slice A_s n_s c_s, i64 i1, i64 h1]) 118 (0, 0))] ++ L17 ∧ (zs.length = j) ∧ ((j : Int) ≤ r3) ∧ (0 ≤ i1 ∧ i1 ≤ n_s) ∧ OwnF encB 5 (.slice A15 (zs).length c16) (zs) L17 ∧ Sub [(6, .slice A15 (zs).length c16), (7, .int .i64 j)] f) (((fun (j : Nat) (i1 h1 : Int) (zs : List UInt8) => r3.toNat - j) (0) (i4) (h5) ([]))) ?_ ?_
 ·refine ⟨0, i4, h5, [], A12, c13, L9, rfl, rfl, ?_, ?_, ?_, ho11, ⟨rfl, rfl, trivial⟩⟩
  · rfl
  · omega
  · omega
 rintro _ _ f w ⟨j, i1, h1, zs, A15, c16, L17, rfl, rfl, p0, p1, p2, ho18, hG⟩ hF hs20
 refine WC.sub _ (hG.app hF) ?_
 clear hG hF
 replace hs20 := St.ungrp1 [_] hs20
 refine WC.seq (fun K21 hK21 => WC.r1 hs20 [] rfl ?_)
 refine WC.cD rfl (fun qh22 => ?_) (fun qh22 => ?_)
 ·refine WC.skip (hK21 _ _ (WC.seq (fun K23 hK23 => WC.block (WC.region (WL.r 2 hs20 [] rfl ?_)))))
  have hF24 : St _ _ ([(b_c, _)] ++ _) _ := hs20
  refine WL.call rfl rfl rfl (Run.call Tryz.call100 rfl rfl rfl) (k2_ _ _ _ _ _ _ _ _ (hF24.own _ List.mem_cons_self).1 (SlF.st f_s hs20 s_s) (St.sepT hF24 f_s s_s) ?_ ?_) ?_
  · omega
  · omega
  rintro _ whs30 ⟨r25, i26, h27, rfl, hs30, hr28, hi29⟩
  replace hs30 := St.lend1 hF24 hs30
  refine ⟨_, rfl, WL.r 1 hs30 [] rfl (WL.buildSlice hs30 Tryz.runUnderlying43 Tryz.sizeOf5 Tryz.zeroValue5 rfl rfl rfl rfl rfl rfl rfl rfl rfl rfl (fun b31 whs32 hs32 => ?_))⟩
  refine WL.appendG (hs32.fr L17) ho18 (srcB1 Tryz.underlying43 (hs32.own _ (nthL_mem (i := 0) rfl)).1) Tryz.underlying43 inf5 rfl rfl rfl rfl rfl rfl rfl rfl rfl rfl ?_ (fun A36 c37 L33 whs34 hs34 ho35 => ?_)
  · (try simp only [List.length_append, List.length_singleton]); omega
  replace hs34 := St.back [_, _] hs34
  refine WL.r 1 hs34 [] rfl (WL.nil (hK23 _ _ (WC.region (WL.r 3 hs34 [] rfl (WL.nil (tkN ?_))))))
  replace hs34 := hs34.d1
  have hF38 := (St.grp1 (L1 := L33) [_] ((hs34.fr L33).fb b_c))
  refine ⟨sbF rfl, _, hF38, _, ?_, j + 1, i26, h27, _, A36, c37, L33, rfl, rfl, ?_, ?_, ?_, ho35, ⟨rfl, rfl, trivial⟩⟩
  · omega
  · simp only [List.length_append, List.length_singleton]; omega
  · omega
  · omega
 refine WC.exit (hK14 _ _ (WC.r1 hs20 [] rfl (WC.ret (retV1 rfl (resV.tmp rfl) (⟨_, _, zs, _, _, _, rfl, St.keepP (L1 := L17) ((hs20.fr L17).fb b_c), ho18, by omega, by omega⟩)))))
open Go Go.RowKit Go.Sort
theorem mapBlock_get {w : World} {b : Nat} {f : Array Value → Array Value} {k : Nat} : (mapBlock w b f).heap[k]? = if k = b then (w.heap[k]?).map (onCells f) else w.heap[k]? := by
 unfold mapBlock
 simp only [Array.getElem?_modify]
 by_cases h : b = k
 ·subst h; simp
 ·rw [if_neg h, if_neg (fun e => h e.symm)]
theorem rows_int (l : List Int) : rows encI l = l.map (Value.int .i64) := by
 induction l with
 | nil => rfl
 | cons x r ih => rw [rows_cons, ih]; rfl
theorem putCells_row {pre cl : List Value} {zs : List Int} (h : zs.length ≤ cl.length) : putCells (Value.int .i64) pre.length zs.toArray (pre ++ cl).toArray = (pre ++ (rows encI zs ++ cl.drop zs.length)).toArray := by
 apply Array.toList_inj.1
 rw [rows_int]
 apply List.ext_getElem?
 intro k
 simp only [putCells, Array.toList_mapIdx, List.getElem?_mapIdx, List.getElem?_append, List.length_map, List.getElem?_drop, List.size_toArray]
 by_cases hp : k < pre.length
 ·have h1 : ¬ (pre.length ≤ k ∧ k < pre.length + zs.length) := by omega
  simp [hp, h1, List.getElem?_eq_getElem hp]
 ·by_cases hk : k - pre.length < zs.length
  ·have hk' : k - pre.length < cl.length := by omega
   have h1 : pre.length ≤ k ∧ k < pre.length + zs.length := by omega
   simp [hp, hk, h1, List.getElem?_eq_getElem hk', List.getElem?_eq_getElem hk]
  ·have e : zs.length + (k - pre.length - zs.length) = k - pre.length := by omega
   have h1 : ¬ (pre.length ≤ k ∧ k < pre.length + zs.length) := by omega
   simp [hp, hk, h1, e]
theorem sort_own {P : Program} {g3 : TypeId} {fid : FuncId} {v : Value} {xs : List Int} {L : Hp} {w : World} {srt : List Int → List Int} (hperm : ∀ l, (srt l).length = l.length)
  (hs : ∀ (blk off cap : Nat) (zs : List Int) (w : World), Holds (Value.int .i64) w blk off zs.toArray → blk < w.heap.size → zs.length < 4611686018427387904 →
   Calls P fid #[.slice (some ⟨blk, off, none⟩) zs.length cap] w fun e w' => e = .returned (.tuple #[]) ∧ ∃ n os, w' = grow (putRow (Value.int .i64) (Sort.ahead w n) blk off (srt zs).toArray) os)
  (hn : ∀ (p : Option Addr) (cap : Nat) (w : World), Calls P fid #[.slice p 0 cap] w fun e w' => e = .returned (.tuple #[]) ∧ w' = w)
  (h : OwnF encI g3 v xs L) (hh : ∀ p, p ∈ L → w.heap[p.1]? = some p.2) (hx : xs.length ≤ 268435456) :
  Calls P fid #[v] w fun e w' => ∃ L1, e = .returned (.tuple #[]) ∧ St w (L.map (·.1)) L1 w' ∧ OwnF encI g3 v (srt xs) L1 := by
 have hkeys := h.keys
 by_cases h0 : xs.length = 0
 ·obtain ⟨A, c, rfl⟩ := h.shape
  have e : xs = [] := List.eq_nil_of_length_eq_zero h0
  have e2 : srt xs = [] := List.eq_nil_of_length_eq_zero (by rw [hperm]; exact h0)
  rw [h0]
  refine (hn A c w).mono fun e' w' ⟨he, hw⟩ => ?_
  subst hw
  refine ⟨L, he, St.take _ L hh hkeys, ?_⟩
  rw [e2]
  have := h
  rw [h0, e] at this
  exact this
 ·rcases h.2 with ⟨⟨A', hv⟩, h0', rfl⟩ | ⟨g, cap, o, pre, cl, ⟨lo, hi⟩, hv, rfl, hcap, hcm, hcl, ht, hfz, rfl⟩
  ·omega
  ·subst hv
   have hg := hh _ List.mem_cons_self
   simp only at hg
   have hsz : encI.sz = 1 := rfl
   simp only [hsz, Nat.mul_one] at hcl ht
   have hget : ∀ j (hj : j < xs.length), cl[j]? = some (Value.int .i64 xs[j]) := by
    intro j hj
    have : (cl.take xs.length)[j]? = (rows encI xs)[j]? := by rw [ht]
    rw [List.getElem?_take, if_pos hj] at this
    rw [this, rows_int]
    simp [List.getElem?_eq_getElem hj]
   have hold : Holds (Value.int .i64) w g pre.length xs.toArray := by
    intro j hj
    have hj' : j < xs.length := by simpa using hj
    refine ⟨?_, ?_⟩
    ·refine cell_of_heap hg ?_
     have e1 : (pre ++ cl)[pre.length + j]? = cl[j]? := by rw [List.getElem?_append_right (by omega), Nat.add_sub_cancel_left]
     rw [e1, hget j hj']
     simp [hj']
    ·simp only [World.frozen?, hg]
     rw [List.length_append] at hfz
     rcases hfz with h | h
     ·simp; omega
     ·simp; omega
   refine (hs g pre.length cap xs w hold (lt_of_heap hg) (by omega)).mono fun e' w' ⟨he, n, os, hw⟩ => ?_
   have hget' : ∀ k, k < w.heap.size → w'.heap[k]? = (mapBlock (Sort.ahead w n) g (putCells (Value.int .i64) pre.length (srt xs).toArray)).heap[k]? := by
    intro k hk
    rw [hw]
    show ((mapBlock (Sort.ahead w n) g (putCells (Value.int .i64) pre.length (srt xs).toArray)).heap ++ os)[k]? = _
    rw [Array.getElem?_append_left]
    unfold mapBlock
    simpa using hk
   have hsize : w.heap.size ≤ w'.heap.size := by
    rw [hw]
    show _ ≤ ((mapBlock (Sort.ahead w n) g (putCells (Value.int .i64) pre.length (srt xs).toArray)).heap ++ os).size
    unfold mapBlock
    simp [Sort.ahead]
   have hlen := hperm xs
   have hnew : w'.heap[g]? = some (.cells (pre ++ (rows encI (srt xs) ++ cl.drop (srt xs).length)).toArray g3 (lo, hi)) := by
    rw [hget' g (lt_of_heap hg), mapBlock_get, if_pos rfl]
    show (w.heap[g]?).map _ = _
    rw [hg]
    simp only [Option.map_some, onCells]
    rw [putCells_row (by omega)]
   refine ⟨[(g, .cells (pre ++ (rows encI (srt xs) ++ cl.drop (srt xs).length)).toArray g3 (lo, hi))], he, ⟨by rw [hw]; rfl, by rw [hw]; rfl, by rw [hw]; rfl, hsize, fun k hk hT => ?_, fun p hp => ?_, by simp⟩, ?_⟩
   ·rw [hget' k hk, mapBlock_get, if_neg (by intro e; apply hT; simp [e])]
    rfl
   ·simp at hp
    subst hp
    exact ⟨hnew, .inr (by simp)⟩
   ·refine ⟨by rw [rows_len], .inr ⟨g, cap, pre.length, pre, _, (lo, hi), by rw [hlen], rfl, by rw [hlen]; exact hcap, hcm, ?_, ?_, ?_, rfl⟩⟩
    ·rw [List.length_append, rows_len, List.length_drop, hlen, hsz]; omega
    ·rw [hsz, Nat.mul_one, List.take_append_of_le_length (by rw [rows_len, hsz]; omega), List.take_of_length_le (by rw [rows_len, hsz]; omega)]
    ·rcases hfz with h | h
     ·exact .inl h
     ·refine .inr ?_
      rw [List.length_append] at h ⊢
      simp only [List.length_append, rows_len, List.length_drop, hlen, hsz]; omega
def leafOk (n : NodeD) : Bool := isId n.Pane && !n.Down && decide (n.First = 0)
def nodeOk (n : NodeD) : Bool := if n.Pane = 0 then within n.First 1 120 else leafOk n
inductive Tr where
  | leaf (n : NodeD)
  | split (n : NodeD) (a b : Tr)
def Tr.flat : Tr → List NodeD
  | .leaf n => [n]
  | .split n a b => n :: (a.flat ++ b.flat)
def Tr.shaped : Tr → Prop
  | .leaf n => n.Pane ≠ 0
  | .split n a b => n.Pane = 0 ∧ a.shaped ∧ b.shaped
theorem Tr.flat_pos : ∀ (T : Tr), 0 < T.flat.length
  | .leaf n => by simp [flat]
  | .split n a b => by simp [flat]
def skipF (ok : NodeD → Bool) : Nat → List NodeD → Option (List NodeD)
  | 0, _ => none
  | _ + 1, [] => none
  | k + 1, n :: r => if ok n = false then none else if n.Pane ≠ 0 then some r else (skipF ok k r).bind (skipF ok k)
theorem skipF_flat {ok : NodeD → Bool} : ∀ {T : Tr} {k : Nat} {r : List NodeD}, T.shaped → (∀ n, n ∈ T.flat → ok n = true) → T.flat.length ≤ k → skipF ok k (T.flat ++ r) = some r
  | .leaf n, k, r, hs, ho, hk => by
    cases k with
    | zero => simp [Tr.flat] at hk
    | succ k =>
      have := ho n (by simp [Tr.flat])
      simp only [Tr.shaped] at hs
      simp [Tr.flat, skipF, this, hs]
  | .split n a b, k, r, hs, ho, hk => by
    cases k with
    | zero => simp [Tr.flat] at hk
    | succ k =>
      obtain ⟨h0, h1, h2⟩ := hs
      simp only [Tr.flat, List.length_cons, List.length_append] at hk
      have hn := ho n (by simp [Tr.flat])
      have ha := skipF_flat (T := a) (k := k) (r := b.flat ++ r) h1 (fun m hm => ho m (by simp [Tr.flat, hm])) (by omega)
      have hb := skipF_flat (T := b) (k := k) (r := r) h2 (fun m hm => ho m (by simp [Tr.flat, hm])) (by omega)
      simp only [Tr.flat, List.cons_append, List.append_assoc, skipF, hn, h0, ha, hb, Option.bind]
      simp
def endOfL (t : List NodeD) (o : Option (List NodeD)) : Int := match o with | some r => (t.length : Int) - r.length | none => -1
def endI (t : List NodeD) (at_ : Int) : Int := if 0 ≤ at_ ∧ at_ < t.length then endOfL t (skipF nodeOk t.length (t.drop at_.toNat)) else -1
theorem nat_drop {t : List NodeD} {i : Nat} (h : i < t.length) : t.drop i = gat encNode t i :: t.drop (i + 1) := by
  rw [List.drop_eq_getElem_cons h]; congr 1; have := gat_get (F := encNode) h; rw [List.getElem?_eq_getElem h] at this; exact Option.some.inj this
def panesL (t : List NodeD) : List Int := (t.filter fun n => decide (n.Pane ≠ 0)).map (·.Pane)
def treeOk (t : List NodeD) : Bool := decide (t.length ≤ 31) && decide (endI t 0 = t.length) && decide (panesL t).Nodup
def Valid (t : List NodeD) (T : Tr) : Prop := T.shaped ∧ (∀ n, n ∈ t → nodeOk n = true) ∧ T.flat = t
def sortI (l : List Int) : List Int := l.mergeSort fun x y => decide (x ≤ y)
theorem sortI_perm (l : List Int) : (sortI l).Perm l := List.mergeSort_perm _ _
theorem sortI_len (l : List Int) : (sortI l).length = l.length := (sortI_perm l).length_eq
theorem sortI_sorted (l : List Int) : (sortI l).Pairwise (· ≤ ·) := by
  have := List.pairwise_mergeSort (le := fun x y : Int => decide (x ≤ y)) (fun a b c h1 h2 => by simp at *; omega) (fun a b => by simp; omega) l
  exact this.imp (fun h => by simpa using h)
def atL (t : List NodeD) (p : Int) : Int := findI (fun n => !decide (n.Pane = 0) && decide (n.Pane = p)) t
theorem sub_at : ∀ {T : Tr} {i : Nat}, T.shaped → i < T.flat.length → ∃ (S : Tr) (r : List NodeD), S.shaped ∧ (∀ n, n ∈ S.flat → n ∈ T.flat) ∧ T.flat.drop i = S.flat ++ r
  | .leaf n, i, hs, hi => by
    have : i = 0 := by simp [Tr.flat] at hi; omega
    subst this
    exact ⟨.leaf n, [], hs, fun _ h => h, by simp⟩
  | .split n a b, 0, hs, hi => ⟨.split n a b, [], hs, fun _ h => h, by simp⟩
  | .split n a b, i + 1, hs, hi => by
    obtain ⟨h0, h1, h2⟩ := hs
    simp only [Tr.flat, List.length_cons, List.length_append] at hi
    simp only [Tr.flat, List.drop_succ_cons]
    rcases Nat.lt_or_ge i a.flat.length with h | h
    · obtain ⟨S, r, hS, hm, hd⟩ := sub_at h1 h
      refine ⟨S, r ++ b.flat, hS, fun n hn => by simp [hm n hn], ?_⟩
      rw [List.drop_append_of_le_length (by omega), hd, List.append_assoc]
    · obtain ⟨S, r, hS, hm, hd⟩ := sub_at h2 (show i - a.flat.length < b.flat.length by omega)
      refine ⟨S, r, hS, fun n hn => by simp [hm n hn], ?_⟩
      rw [List.drop_append, List.drop_eq_nil_of_le (by omega), List.nil_append, hd]
structure At (t : List NodeD) (i : Nat) (S : Tr) : Prop where
  shaped : S.shaped
  ok : ∀ n, n ∈ S.flat → nodeOk n = true
  drop : ∃ r, t.drop i = S.flat ++ r
theorem Valid.at_ {t : List NodeD} {T : Tr} (h : Valid t T) {i : Nat} (hi : i < t.length) : ∃ S, At t i S := by
  obtain ⟨hT, ho, rfl⟩ := h
  obtain ⟨S, r, hS, hm, hd⟩ := sub_at hT hi
  exact ⟨S, hS, fun n hn => ho n (hm n hn), r, hd⟩
theorem At.le {t : List NodeD} {i : Nat} {S : Tr} (h : At t i S) : i + S.flat.length ≤ t.length := by
  obtain ⟨r, hr⟩ := h.drop
  have := congrArg List.length hr
  have h0 := S.flat_pos
  rw [List.length_drop, List.length_append] at this
  omega
theorem At.lt {t : List NodeD} {i : Nat} {S : Tr} (h : At t i S) : i < t.length := by
  have := h.le
  have := S.flat_pos
  omega
theorem At.endI {t : List NodeD} {i : Nat} {S : Tr} (h : At t i S) : endI t i = (i + S.flat.length : Nat) := by
  obtain ⟨r, hr⟩ := h.drop
  have h1 := h.le
  have h2 := h.lt
  have h3 := congrArg List.length hr
  rw [List.length_drop, List.length_append] at h3
  rw [Go.Proofs.YtcpnlodkmkfplaaGreatDoor.endI, if_pos ⟨by omega, by omega⟩, Int.toNat_natCast, hr, skipF_flat h.shaped h.ok (by omega)]
  simp only [endOfL]
  omega
theorem At.head {t : List NodeD} {i : Nat} {S : Tr} (h : At t i S) : S.flat.head? = some (gat encNode t i) := by
  obtain ⟨r, hr⟩ := h.drop
  rw [nat_drop h.lt] at hr
  cases S with
  | leaf n => simp [Tr.flat] at hr ⊢; exact hr.1.symm
  | split n a b => simp [Tr.flat] at hr ⊢; exact hr.1.symm
theorem At.parts {t : List NodeD} {i : Nat} {n : NodeD} {a b : Tr} (h : At t i (.split n a b)) : gat encNode t i = n ∧ At t (i + 1) a ∧ At t (i + 1 + a.flat.length) b := by
  obtain ⟨h0, h1, h2⟩ := h.shaped
  obtain ⟨r, hr⟩ := h.drop
  have hh := h.head
  simp [Tr.flat] at hh
  have hd : t.drop (i + 1) = a.flat ++ (b.flat ++ r) := by
    rw [← List.drop_drop, hr]
    simp [Tr.flat]
  refine ⟨hh.symm, ⟨h1, fun m hm => h.ok m (by simp [Tr.flat, hm]), _, hd⟩, ⟨h2, fun m hm => h.ok m (by simp [Tr.flat, hm]), r, ?_⟩⟩
  rw [← List.drop_drop, hd, List.drop_left]
def isSplit (t : List NodeD) (i : Nat) : Bool := decide ((gat encNode t i).Pane = 0)
def isOver (t : List NodeD) (at_ i : Nat) : Bool := isSplit t i && decide (endI t i > at_)
def lastI (p : Nat → Bool) : Nat → Int
  | 0 => -1
  | k + 1 => if p k = true then (k : Int) else lastI p k
def sizeR (n : NodeD) (r : RectD) : Int := if n.Down = true then r.H else r.W
def firstR (n : NodeD) (r : RectD) : RectD := if n.Down = true then { r with H := min n.First (r.H - 2) } else { r with W := min n.First (r.W - 2) }
structure Fine (r : RectD) : Prop where
  pane : r.Pane = 0
  x : 0 ≤ r.X
  y : 0 ≤ r.Y
  w : 1 ≤ r.W
  h : 1 ≤ r.H
  xw : r.X + r.W ≤ 120
  yh : r.Y + r.H ≤ 120
theorem Fine.first {r : RectD} {n : NodeD} (h : Fine r) (hf : 1 ≤ n.First) (hs : 3 ≤ sizeR n r) : Fine (firstR n r) := by
  obtain ⟨h0, h1, h2, h3, h4, h5, h6⟩ := h
  unfold sizeR at hs
  unfold firstR
  split at hs <;> rename_i hd <;> simp only [hd] <;> constructor <;> simp <;> omega
def cutOk (t : List NodeD) (p : Int) : Bool := treeOk t && decide (1 ≤ atL t p)
def upL (t : List NodeD) (p : Int) : Nat := (lastI (isOver t (atL t p).toNat) (atL t p).toNat).toNat
def cutL (t : List NodeD) (p : Int) : List NodeD :=
  if cutOk t p = true then t.take (upL t p) ++ (t.drop (upL t p + 1)).take ((atL t p).toNat - (upL t p + 1)) ++ t.drop ((atL t p).toNat + 1) else []
theorem flat_take {α : Type} {xss : List (List α)} {i : Nat} (h : i < xss.length) : (xss.take (i + 1)).flatten = (xss.take i).flatten ++ xss.getD i [] := by
  rw [List.take_add_one, List.getElem?_eq_getElem h, List.flatten_append, List.getD_eq_getElem?_getD, List.getElem?_eq_getElem h]
  simp
theorem flat_le {α : Type} {xss : List (List α)} {i : Nat} : ((xss.take i).flatten).length ≤ xss.flatten.length := by
  conv => rhs; rw [← List.take_append_drop i xss]
  rw [List.flatten_append, List.length_append]
  omega
structure Within (q r : RectD) : Prop where
  x0 : r.X ≤ q.X
  y0 : r.Y ≤ q.Y
  w1 : 1 ≤ q.W
  h1 : 1 ≤ q.H
  x1 : q.X + q.W ≤ r.X + r.W
  y1 : q.Y + q.H ≤ r.Y + r.H
theorem Within.trans {a b c : RectD} (h : Within a b) (k : Within b c) : Within a c :=
  ⟨by have := h.x0; have := k.x0; omega, by have := h.y0; have := k.y0; omega, h.w1, h.h1, by have := h.x1; have := k.x1; omega, by have := h.y1; have := k.y1; omega⟩
theorem filter_take {α : Type} {F : Enc α} {p : α → Bool} {xs : List α} {j : Nat} (hj : j < xs.length) : (xs.take (j + 1)).filter p = (xs.take j).filter p ++ (if p (gat F xs j) = true then [gat F xs j] else []) := by
  rw [List.take_add_one, gat_get (F := F) hj, List.filter_append]
  congr 1
  cases h : p (gat F xs j) <;> simp [h]
theorem set_take {α : Type} {zs : List α} {i : Nat} {x : α} (h : i < zs.length) : (zs.set i x).take (i + 1) = zs.take i ++ [x] := by
  have hl : (zs.set i x)[i]? = some x := by simp [h]
  rw [List.take_add_one, hl, List.take_set_of_le (Nat.le_refl i)]
  rfl
theorem gat_set_ne {α : Type} {F : Enc α} {zs : List α} {i k : Nat} {x : α} (h : k ≠ i) : gat F (zs.set i x) k = gat F zs k := by
  unfold gat
  simp [List.getD_eq_getElem?_getD, List.getElem?_set_ne (Ne.symm h)]
open Go.Shelf
open Go.RowKit in
def Tryz.lays106_ren : Go.Shelf.Ren := ⟨fun | 106 => 188 | 213 => 208 | 265 => 230 | n => n, fun | 9 => 9 | 3 => 3 | n => n, fun | n => n⟩
theorem Tryz.lays106 : Go.Proofs.Lays.n106 Tryz.prog Tryz.lays106_ren := {
  mixed := by kernel_rfl
  f106 := Tryz.func188.trans (congrArg some (by kernel_rfl))
  f213 := Tryz.func208.trans (congrArg some (by kernel_rfl))
  f265 := Tryz.func230.trans (congrArg some (by kernel_rfl))
  t3 := Tryz.underlying3
  a3 := Tryz.isAgg3
  z3 := Tryz.sizeOf3
  v3 := Tryz.zeroValue3
  t9 := Tryz.underlying9
  a9 := Tryz.isAgg9
  z9 := Tryz.sizeOf9
  v9 := Tryz.zeroValue9 }
open Go.RowKit in
theorem Tryz.strings_Compare (a b : ByteArray) (w : World) :
    Calls Tryz.prog 188 #[.string a, .string b] w fun e w' => e = .returned (.int .i64 (Lib.compareBytes a.data.toList b.data.toList)) ∧ w' = w := Any.strings_Compare Tryz.lays106 a b w
open Go.RowKit in
open Go.RowKit in
open Go.Lib in
open Go.Lib in
open Go.Lib in
open Go.Lib in
open Go.RowKit Go.Sort Go.Lib in
open Go.RowKit Go.Sort Go.Lib in
open Go.RowKit Go.Sort Go.Lib in
open Go.RowKit Go.Sort Go.Lib in
open Go.RowKit Go.Sort Go.Lib in
def Tryz.laysM171_ren : Go.Shelf.Ren := ⟨fun | 171 => 154 | 243 => 178 | 246 => 193 | 283 => 212 | 284 => 213 | 285 => 214 | 286 => 215 | 129 => 204 | 317 => 233 | 318 => 234 | 319 => 235 | 320 => 236 | 337 => 243 | 338 => 244 | n => n, fun | 3 => 3 | 9 => 9 | 2 => 2 | 4 => 4 | 171 => 222 | 0 => 0 | 53 => 219 | 37 => 43 | 5 => 5 | 173 => 224 | 212 => 240 | 51 => 194 | 20 => 20 | 213 => 241 | 46 => 176 | 232 => 259 | 233 => 260 | n => n, fun | 17 => 1 | 18 => 4 | 19 => 5 | n => n⟩
theorem Tryz.laysM171 : Go.Proofs.LaysM.n171 Tryz.prog Tryz.laysM171_ren := {
  mixed := by kernel_rfl
  f129 := Tryz.func204.trans (congrArg some (by kernel_rfl))
  f171 := Tryz.func154.trans (congrArg some (by kernel_rfl))
  f243 := Tryz.func178.trans (congrArg some (by kernel_rfl))
  f246 := Tryz.func193.trans (congrArg some (by kernel_rfl))
  f283 := Tryz.func212.trans (congrArg some (by kernel_rfl))
  f284 := Tryz.func213.trans (congrArg some (by kernel_rfl))
  f285 := Tryz.func214.trans (congrArg some (by kernel_rfl))
  f286 := Tryz.func215.trans (congrArg some (by kernel_rfl))
  f317 := Tryz.func233.trans (congrArg some (by kernel_rfl))
  f318 := Tryz.func234.trans (congrArg some (by kernel_rfl))
  f319 := Tryz.func235.trans (congrArg some (by kernel_rfl))
  f320 := Tryz.func236.trans (congrArg some (by kernel_rfl))
  f337 := Tryz.func243.trans (congrArg some (by kernel_rfl))
  f338 := Tryz.func244.trans (congrArg some (by kernel_rfl))
  t0 := Tryz.underlying0
  a0 := Tryz.isAgg0
  z0 := Tryz.sizeOf0
  v0 := Tryz.zeroValue0
  t2 := Tryz.underlying2
  a2 := Tryz.isAgg2
  z2 := Tryz.sizeOf2
  v2 := Tryz.zeroValue2
  t3 := Tryz.underlying3
  a3 := Tryz.isAgg3
  z3 := Tryz.sizeOf3
  v3 := Tryz.zeroValue3
  t4 := Tryz.underlying4
  a4 := Tryz.isAgg4
  z4 := Tryz.sizeOf4
  v4 := Tryz.zeroValue4
  t5 := Tryz.underlying5
  a5 := Tryz.isAgg5
  z5 := Tryz.sizeOf5
  v5 := Tryz.zeroValue5
  t9 := Tryz.underlying9
  a9 := Tryz.isAgg9
  z9 := Tryz.sizeOf9
  v9 := Tryz.zeroValue9
  t20 := Tryz.underlying20
  a20 := Tryz.isAgg20
  z20 := Tryz.sizeOf20
  v20 := Tryz.zeroValue20
  t37 := Tryz.underlying43
  a37 := Tryz.isAgg43
  z37 := Tryz.sizeOf43
  v37 := Tryz.zeroValue43
  t46 := Tryz.underlying176
  a46 := Tryz.isAgg176
  z46 := Tryz.sizeOf176
  v46 := Tryz.zeroValue176
  t51 := Tryz.underlying194
  a51 := Tryz.isAgg194
  z51 := Tryz.sizeOf194
  v51 := Tryz.zeroValue194
  t53 := Tryz.underlying219
  a53 := Tryz.isAgg219
  z53 := Tryz.sizeOf219
  v53 := Tryz.zeroValue219
  t171 := Tryz.underlying222
  a171 := Tryz.isAgg222
  z171 := Tryz.sizeOf222
  v171 := Tryz.zeroValue222
  t173 := Tryz.underlying224
  a173 := Tryz.isAgg224
  z173 := Tryz.sizeOf224
  v173 := Tryz.zeroValue224
  t212 := Tryz.underlying240
  a212 := Tryz.isAgg240
  z212 := Tryz.sizeOf240
  v212 := Tryz.zeroValue240
  t213 := Tryz.underlying241
  a213 := Tryz.isAgg241
  z213 := Tryz.sizeOf241
  t232 := Tryz.underlying259
  a232 := Tryz.isAgg259
  z232 := Tryz.sizeOf259
  v232 := Tryz.zeroValue259
  t233 := Tryz.underlying260
  a233 := Tryz.isAgg260
  z233 := Tryz.sizeOf260
  v233 := Tryz.zeroValue260
  g17 := by kernel_rfl
  g18 := by kernel_rfl
  g19 := by kernel_rfl
  i0 := by kernel_rfl
  i2 := by kernel_rfl
  i3 := by kernel_rfl
  i4 := by kernel_rfl
  i5 := by kernel_rfl
  i9 := by kernel_rfl
  i20 := by kernel_rfl
  i37 := by kernel_rfl
  i46 := by kernel_rfl
  i51 := by kernel_rfl
  i53 := by kernel_rfl
  i171 := by kernel_rfl
  i173 := by kernel_rfl
  i212 := by kernel_rfl
  i232 := by kernel_rfl
  i233 := by kernel_rfl
  m17 := by kernel_rfl
  m18 := by kernel_rfl
  m19 := by kernel_rfl }
open Go.RowKit Go.Sort Go.Lib in
theorem Tryz.strconv_Itoa (n : Int) (h0 : -9223372036854775808 ≤ n) (h1 : n ≤ 9223372036854775807) (w : World) (htab : Lib.TabIs Tryz.prog w "internal/strconv.uint64pow10" .u64 Lib.pow10Tab) :
    Calls Tryz.prog 154 #[.int .i64 n] w fun e w' => e = .returned (.string ⟨(Lib.itoa n).toArray⟩) ∧ ∃ k os, w' = grow (w.drewN k) os := Any.strconv_Itoa Tryz.laysM171 n h0 h1 w htab
open Go.RowKit Go.Sort Go.Lib in
open Go.RowKit Go.Lib in
open Go.RowKit Go.Lib in
open Go.RowKit Go.Lib in
open Go.RowKit Go.Lib in
open Go.RowKit Go.Lib in
open Go.RowKit Go.Lib in
open Go.RowKit Go.Lib in
open Go.RowKit Go.Lib in
open Go.RowKit Go.Lib in
open Go.RowKit Go.Lib in
def Tryz.laysM145_ren : Go.Shelf.Ren := ⟨fun | 145 => 166 | 220 => 182 | 219 => 205 | 217 => 211 | 225 => 222 | 224 => 223 | 267 => 224 | 266 => 232 | 314 => 238 | n => n, fun | 9 => 9 | 4 => 4 | 59 => 185 | 3 => 3 | 5 => 5 | 46 => 176 | 146 => 245 | 51 => 194 | n => n, fun | 1 => 0 | n => n⟩
theorem Tryz.laysM145 : Go.Proofs.LaysM.n145 Tryz.prog Tryz.laysM145_ren := {
  mixed := by kernel_rfl
  f145 := Tryz.func166.trans (congrArg some (by kernel_rfl))
  f217 := Tryz.func211.trans (congrArg some (by kernel_rfl))
  f219 := Tryz.func205.trans (congrArg some (by kernel_rfl))
  f220 := Tryz.func182.trans (congrArg some (by kernel_rfl))
  f224 := Tryz.func223.trans (congrArg some (by kernel_rfl))
  f225 := Tryz.func222.trans (congrArg some (by kernel_rfl))
  f266 := Tryz.func232.trans (congrArg some (by kernel_rfl))
  f267 := Tryz.func224.trans (congrArg some (by kernel_rfl))
  f314 := Tryz.func238.trans (congrArg some (by kernel_rfl))
  t3 := Tryz.underlying3
  a3 := Tryz.isAgg3
  z3 := Tryz.sizeOf3
  v3 := Tryz.zeroValue3
  t4 := Tryz.underlying4
  a4 := Tryz.isAgg4
  z4 := Tryz.sizeOf4
  v4 := Tryz.zeroValue4
  t5 := Tryz.underlying5
  a5 := Tryz.isAgg5
  z5 := Tryz.sizeOf5
  v5 := Tryz.zeroValue5
  t9 := Tryz.underlying9
  a9 := Tryz.isAgg9
  z9 := Tryz.sizeOf9
  v9 := Tryz.zeroValue9
  t46 := Tryz.underlying176
  a46 := Tryz.isAgg176
  z46 := Tryz.sizeOf176
  v46 := Tryz.zeroValue176
  t51 := Tryz.underlying194
  a51 := Tryz.isAgg194
  z51 := Tryz.sizeOf194
  v51 := Tryz.zeroValue194
  t59 := Tryz.underlying185
  a59 := Tryz.isAgg185
  z59 := Tryz.sizeOf185
  v59 := Tryz.zeroValue185
  t146 := Tryz.underlying245
  a146 := Tryz.isAgg245
  z146 := Tryz.sizeOf245
  v146 := Tryz.zeroValue245
  g1 := by kernel_rfl
  i3 := by kernel_rfl
  i4 := by kernel_rfl
  i5 := by kernel_rfl
  i9 := by kernel_rfl
  i46 := by kernel_rfl
  i51 := by kernel_rfl
  i59 := by kernel_rfl
  i146 := by kernel_rfl
  m1 := by kernel_rfl
  s1_3 := fun w h => Go.Proofs.cell_of_shapedOpen_int (zero := #[.int .i64 0]) (t := 3) h (of_decide_eq_true (by kernel_rfl)) (by kernel_rfl) rfl (by kernel_rfl) (by kernel_rfl) Tryz.underlying3 }
def Tryz.lays189_ren : Go.Shelf.Ren := ⟨fun | 189 => 163 | 125 => 181 | 257 => 180 | 128 => 203 | 129 => 204 | 294 => 194 | 295 => 195 | 296 => 196 | 297 => 197 | 298 => 198 | 299 => 199 | 216 => 200 | 300 => 201 | 301 => 202 | 328 => 216 | 329 => 217 | 330 => 218 | 331 => 219 | 332 => 220 | 215 => 221 | 343 => 237 | n => n, fun | 28 => 64 | 3 => 3 | 46 => 176 | 0 => 0 | 51 => 194 | 53 => 219 | 4 => 4 | 183 => 211 | 182 => 210 | 131 => 102 | 5 => 5 | 9 => 9 | 218 => 226 | 222 => 230 | 228 => 242 | 229 => 243 | n => n, fun | n => n⟩
theorem Tryz.lays189 : Go.Proofs.Lays.n189 Tryz.prog Tryz.lays189_ren := {
  mixed := by kernel_rfl
  f125 := Tryz.func181.trans (congrArg some (by kernel_rfl))
  f128 := Tryz.func203.trans (congrArg some (by kernel_rfl))
  f129 := Tryz.func204.trans (congrArg some (by kernel_rfl))
  f189 := Tryz.func163.trans (congrArg some (by kernel_rfl))
  f215 := Tryz.func221.trans (congrArg some (by kernel_rfl))
  f216 := Tryz.func200.trans (congrArg some (by kernel_rfl))
  f257 := Tryz.func180.trans (congrArg some (by kernel_rfl))
  f294 := Tryz.func194.trans (congrArg some (by kernel_rfl))
  f295 := Tryz.func195.trans (congrArg some (by kernel_rfl))
  f296 := Tryz.func196.trans (congrArg some (by kernel_rfl))
  f297 := Tryz.func197.trans (congrArg some (by kernel_rfl))
  f298 := Tryz.func198.trans (congrArg some (by kernel_rfl))
  f299 := Tryz.func199.trans (congrArg some (by kernel_rfl))
  f300 := Tryz.func201.trans (congrArg some (by kernel_rfl))
  f301 := Tryz.func202.trans (congrArg some (by kernel_rfl))
  f328 := Tryz.func216.trans (congrArg some (by kernel_rfl))
  f329 := Tryz.func217.trans (congrArg some (by kernel_rfl))
  f330 := Tryz.func218.trans (congrArg some (by kernel_rfl))
  f331 := Tryz.func219.trans (congrArg some (by kernel_rfl))
  f332 := Tryz.func220.trans (congrArg some (by kernel_rfl))
  f343 := Tryz.func237.trans (congrArg some (by kernel_rfl))
  t0 := Tryz.underlying0
  a0 := Tryz.isAgg0
  z0 := Tryz.sizeOf0
  v0 := Tryz.zeroValue0
  t3 := Tryz.underlying3
  a3 := Tryz.isAgg3
  z3 := Tryz.sizeOf3
  v3 := Tryz.zeroValue3
  t4 := Tryz.underlying4
  a4 := Tryz.isAgg4
  z4 := Tryz.sizeOf4
  v4 := Tryz.zeroValue4
  t5 := Tryz.underlying5
  a5 := Tryz.isAgg5
  z5 := Tryz.sizeOf5
  v5 := Tryz.zeroValue5
  t9 := Tryz.underlying9
  a9 := Tryz.isAgg9
  z9 := Tryz.sizeOf9
  v9 := Tryz.zeroValue9
  t28 := Tryz.underlying64
  a28 := Tryz.isAgg64
  z28 := Tryz.sizeOf64
  v28 := Tryz.zeroValue64
  t46 := Tryz.underlying176
  a46 := Tryz.isAgg176
  z46 := Tryz.sizeOf176
  v46 := Tryz.zeroValue176
  t51 := Tryz.underlying194
  a51 := Tryz.isAgg194
  z51 := Tryz.sizeOf194
  v51 := Tryz.zeroValue194
  t53 := Tryz.underlying219
  a53 := Tryz.isAgg219
  z53 := Tryz.sizeOf219
  v53 := Tryz.zeroValue219
  t131 := Tryz.underlying102
  a131 := Tryz.isAgg102
  z131 := Tryz.sizeOf102
  v131 := Tryz.zeroValue102
  t182 := Tryz.underlying210
  a182 := Tryz.isAgg210
  z182 := Tryz.sizeOf210
  v182 := Tryz.zeroValue210
  t183 := Tryz.underlying211
  a183 := Tryz.isAgg211
  z183 := Tryz.sizeOf211
  v183 := Tryz.zeroValue211
  t218 := Tryz.underlying226
  a218 := Tryz.isAgg226
  z218 := Tryz.sizeOf226
  v218 := Tryz.zeroValue226
  t222 := Tryz.underlying230
  a222 := Tryz.isAgg230
  z222 := Tryz.sizeOf230
  v222 := Tryz.zeroValue230
  t228 := Tryz.underlying242
  a228 := Tryz.isAgg242
  z228 := Tryz.sizeOf242
  v228 := Tryz.zeroValue242
  t229 := Tryz.underlying243
  a229 := Tryz.isAgg243
  z229 := Tryz.sizeOf243
  v229 := Tryz.zeroValue243 }
open Go.Sort Go.RowKit in
theorem Tryz.slices_Sort_int (blk off cap : Nat) (zs : List Int) (w : World) (hH : Holds (Value.int .i64) w blk off zs.toArray) (hblk : blk < w.heap.size) (hsz : zs.length < 4611686018427387904) :
    Calls Tryz.prog 163 #[.slice (some ⟨blk, off, none⟩) zs.length cap] w fun e w' =>
      e = .returned (.tuple #[]) ∧ ∃ n os, w' = grow (putRow (Value.int .i64) (Sort.ahead w n) blk off (zs.mergeSort fun x y => decide (x ≤ y)).toArray) os := Any.slices_Sort_int Tryz.lays189 blk off cap zs w hH hblk hsz
open Go.RowKit Go.Lib in
def Tryz.lays99_ren : Go.Shelf.Ren := ⟨fun | 99 => 168 | 206 => 184 | n => n, fun | 9 => 9 | 4 => 4 | 3 => 3 | n => n, fun | n => n⟩
theorem Tryz.lays99 : Go.Proofs.Lays.n99 Tryz.prog Tryz.lays99_ren := {
  mixed := by kernel_rfl
  f99 := Tryz.func168.trans (congrArg some (by kernel_rfl))
  f206 := Tryz.func184.trans (congrArg some (by kernel_rfl))
  t3 := Tryz.underlying3
  a3 := Tryz.isAgg3
  z3 := Tryz.sizeOf3
  v3 := Tryz.zeroValue3
  t4 := Tryz.underlying4
  a4 := Tryz.isAgg4
  z4 := Tryz.sizeOf4
  v4 := Tryz.zeroValue4
  t9 := Tryz.underlying9
  a9 := Tryz.isAgg9
  z9 := Tryz.sizeOf9
  v9 := Tryz.zeroValue9 }
open Go.RowKit Go.Lib in
theorem Tryz.strings_HasPrefix (s p : ByteArray) (w : World) :
    Calls Tryz.prog 168 #[.string s, .string p] w fun e w' => e = .returned (.bool (Lib.hasPrefix s.data.toList p.data.toList)) ∧ w' = w := Any.strings_HasPrefix Tryz.lays99 s p w
open Go.RowKit Go.Lib in
open Go.RowKit Go.Lib in
open Go.RowKit Go.Sort in
theorem Tryz.slices_Sort_int_none (p : Option Addr) (cap : Nat) (w : World) :
    Calls Tryz.prog 163 #[.slice p 0 cap] w fun e w' => e = .returned (.tuple #[]) ∧ w' = w := Any.slices_Sort_int_none Tryz.lays189 p cap w
section
theorem k5_ (v_s : Value) (s : List Int) (L_s : Hp) (w : World) (o_s : OwnF encI 3 v_s s L_s) (h_s : Hh w L_s) (hn : s.length ≤ 268435456) :
    Calls Tryz.prog 163 #[v_s] w fun e w' => ∃ L1, e = .returned (.tuple #[]) ∧ St w (L_s.map (·.1)) L1 w' ∧ OwnF encI 3 v_s (sortI s) L1 :=
  sort_own (srt := sortI) sortI_len (fun b o c zs w h1 h2 h3 => Tryz.slices_Sort_int b o c zs w h1 h2 h3) Tryz.slices_Sort_int_none o_s h_s hn
theorem k6_ (a b : ByteArray) (w : World) : Calls Tryz.prog 188 #[.string a, .string b] w fun e w' => e = .returned (.int .i64 (cmpS a b)) ∧ St w [] [] w' := by
  refine (Tryz.strings_Compare a b w).mono ?_
  rintro e w' ⟨rfl, rfl⟩
  exact ⟨rfl, St.init _⟩
end
def numT (n : Int) : List UInt8 := if 0 ≤ n ∧ n ≤ 4294967295 then Go.Lib.decDigits n.toNat else []
def numBA (n : Int) : ByteArray := ⟨(numT n).toArray⟩
theorem numT_small {n : Int} (h : 0 ≤ n ∧ n < 10) : numT n = [ub (48 + n)] := by
  unfold numT
  rw [if_pos (by omega), Go.Lib.decDigits_one (by omega)]
  congr 1
  apply u8_inj
  rw [ub_toNat, UInt8.toNat_ofNat']
  omega
theorem numT_big {n : Int} (h : 10 ≤ n ∧ n ≤ 4294967295) : numT n = numT (n / 10) ++ [ub (48 + n % 10)] := by
  unfold numT
  rw [if_pos (by omega), if_pos (by omega), Go.Lib.decDigits, dif_neg (by omega)]
  have e1 : n.toNat / 10 = (n / 10).toNat := by omega
  rw [e1]
  congr 2
  apply u8_inj
  rw [ub_toNat, UInt8.toNat_ofNat']
  omega
theorem dec_chars (u : Nat) : ∀ c, c ∈ Go.Lib.decDigits u → 48 ≤ c.toNat ∧ c.toNat ≤ 57 := by
  induction u using Nat.strongRecOn with
  | _ u ih =>
    intro c hc
    rw [Go.Lib.decDigits] at hc
    split at hc
    · rw [List.mem_singleton] at hc
      rw [hc, UInt8.toNat_ofNat']; omega
    · rw [List.mem_append, List.mem_singleton] at hc
      rcases hc with hc | hc
      · exact ih _ (by omega) c hc
      · rw [hc, UInt8.toNat_ofNat']; omega
theorem numT_chars {n : Int} : ∀ c, c ∈ numT n → 48 ≤ c.toNat ∧ c.toNat ≤ 57 := by
  intro c hc
  unfold numT at hc
  split at hc
  · exact dec_chars _ c hc
  · cases hc
theorem numT_len {n : Int} : (numT n).length ≤ 21 := by
  unfold numT
  split
  · have h := Go.Lib.itoa_length_le (n.toNat : Int) (by omega) (by omega)
    rwa [Go.Lib.itoa_nonneg] at h
  · exact Nat.zero_le _
def TabOk (w : World) : Prop := Go.Lib.TabIs Tryz.prog w "internal/strconv.uint64pow10" .u64 Go.Lib.pow10Tab
theorem tab_st {w w' : World} {L : Hp} (h : TabOk w) (hs : St w [] L w') : TabOk w' := by
  have hgn : Tryz.prog.globalNamed "internal/strconv.uint64pow10" = some 1 := by kernel_rfl
  unfold TabOk Go.Lib.TabIs World.var? at h ⊢
  rw [hgn] at h ⊢
  simp only [Option.bind_some] at h ⊢
  have hlt : 1 < w.heap.size := by
    rcases Nat.lt_or_ge 1 w.heap.size with h' | h'
    · exact h'
    · rw [Array.getElem?_eq_none h'] at h; cases h
  rw [hs.keep 1 hlt (by simp)]
  exact h
theorem st_grow (w : World) (k : Nat) (os : Array Obj) : St w [] [] (Go.Sort.grow (w.drewN k) os) := ⟨rfl, rfl, rfl, by show w.heap.size ≤ (w.heap ++ os).size; rw [Array.size_append]; omega, fun k hk _ => by show (w.heap ++ os)[k]? = _; rw [Array.getElem?_append_left hk], (fun _ h => by cases h), List.nodup_nil⟩
theorem k7_ (n : Int) (w : World) (h0 : 0 ≤ n ∧ n ≤ 4294967295) (ht : TabOk w) : Calls Tryz.prog 154 #[i64 n] w fun e w' => e = .returned (.string (numBA n)) ∧ St w [] [] w' := by
  refine (Tryz.strconv_Itoa n (by omega) (by omega) w ht).mono ?_
  rintro e w' ⟨rfl, k, os, rfl⟩
  refine ⟨?_, st_grow _ _ _⟩
  unfold numBA numT
  rw [if_pos h0, show Go.Lib.itoa n = Go.Lib.decDigits n.toNat from by unfold Go.Lib.itoa; rw [if_neg (by omega)]]
theorem findI_map {α β : Type} {f : α → β} {p : β → Bool} {l : List α} : findI p (l.map f) = findI (fun x => p (f x)) l := by
 unfold findI
 rw [List.findIdx?_map]
 rfl
end Go.Proofs.YtcpnlodkmkfplaaGreatDoor
