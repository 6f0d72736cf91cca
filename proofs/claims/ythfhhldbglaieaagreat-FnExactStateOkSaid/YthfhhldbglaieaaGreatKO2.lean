/-
  What the proof stands on, part 2.
-/
import Derived.Test.YthfhhldbglaieaaGreatKO1
namespace Go.Proofs.YthfhhldbglaieaaGreat
open Go Go.RowKit
set_option linter.unusedVariables false
set_option linter.unusedSimpArgs false
section
variable {P : Program} {n : Nat} {f : Fr} {w w0 : World} {T : List Nat} {R : Hp}
theorem WC.join {c : Code} {Q : Kont} (Post : Fr → World → Prop) (h : WC P n c (fun e f' w' => e = .normal ∧ Post f' w') f w) (k : ∀ f' w', Post f' w' → Q .normal f' w') : WC P n c Q f w :=
 h.mono fun e f' w' ⟨he, hp⟩ => he ▸ k f' w' hp
theorem WC.join0 {c : Code} {Q : Kont} (L : Hp) (G : Fr) (h : WC P n c (fun e f' w' => e = .normal ∧ St w0 T L w' ∧ Sub G f') f w) (k : ∀ f' w', (St w0 T L w' ∧ Sub G f') → Q .normal f' w') : WC P n c Q f w := WC.join _ h k
theorem WC.join2 {c : Code} {Q : Kont} (L : Nat → Nat → Hp) (G : Nat → Nat → Fr) (h : WC P n c (fun e f' w' => e = .normal ∧ ∃ b b', St w0 T (L b b') w' ∧ Sub (G b b') f') f w) (k : ∀ f' w', (∃ b b', St w0 T (L b b') w' ∧ Sub (G b b') f') → Q .normal f' w') : WC P n c Q f w := WC.join _ h k
theorem St.swap (A : Hp) {x y : Nat × Obj} (h : St w0 T (A ++ (x :: y :: R)) w) : St w0 T (A ++ (y :: x :: R)) w := h.perm (List.Perm.append_left A (List.Perm.swap x y R))
theorem SlF.blk_lt {α : Type} {F : Enc α} {A : Option Addr} {m : Nat} {xs : List α} (h : SlF F w A m xs) (h0 : 0 < m) : (adr A).block < w.heap.size := by
 have hp := F.pos
 have hl : 0 < (rows F xs).length := by rw [rows_len, h.len]; exact Nat.mul_pos h0 hp
 have := h.rd.cell 0 _ (List.getElem?_eq_getElem hl)
 have := cell?_lt this
 rwa [add_block] at this
theorem St.sepT {α : Type} {F : Enc α} {A : Option Addr} {m : Nat} {xs : List α} {L1 : Hp} (hs : St w0 T (L1 ++ R) w) (h : SlF F w0 A m xs) (s : 0 < m → (adr A).block ∉ T) : 0 < m → (adr A).block ∉ L1.map (·.1) := by
 intro h0 hm
 obtain ⟨p, hp, he⟩ := List.mem_map.1 hm
 have h1 := h.blk_lt h0
 rcases (hs.own p (List.mem_append_left _ hp)).2 with h2 | h2
 ·omega
 ·exact s h0 (he ▸ h2)
theorem St.sepOwn {L1 : Hp} {p : Nat × Obj} (hs : St w0 T (L1 ++ R) w) (hp : p ∈ R) : p.1 ∉ L1.map (·.1) := by
 intro hm
 have hd := hs.nodup
 rw [List.map_append, List.nodup_append] at hd
 exact hd.2.2 _ hm _ (List.mem_map_of_mem hp) rfl
theorem St.takeN (w : World) (H L : Hp) (ho : ∀ p, p ∈ H ++ L → w.heap[p.1]? = some p.2) (hn : ((H ++ L).map (·.1)).Nodup) : St w ((H ++ L).map (·.1)) (H ++ (L ++ [])) w := by
 rw [List.append_nil]; exact St.take w (H ++ L) ho hn
theorem St.nodupL {L1 : Hp} (hs : St w0 T (L1 ++ R) w) : (L1.map (·.1)).Nodup := by
 have hd := hs.nodup
 rw [List.map_append, List.nodup_append] at hd
 exact hd.1
theorem St.ownA {L1 : Hp} (hs : St w0 T (L1 ++ R) w) : ∀ p, p ∈ L1 → w.heap[p.1]? = some p.2 := fun p hp => (hs.own p (List.mem_append_left _ hp)).1
end
structure FnD where
 fn : Fn
 caps : List Value
def encFn : Enc FnD := ⟨1, fun d => [.func d.fn #[] d.caps.toArray], ⟨.func 0, []⟩, fun _ => rfl, fun x v h => by simp at h; subst h; rfl, by decide⟩
section
variable {P : Program} {w : World} {o : Oper} {f : Fr} {x y : Operand} {t t' : TypeId} {k : IntKind} {a b : Int}
theorem Run.min (ho : o.op = .call { callee := .builtin .min, args := #[x, y], argTypes := #[t, t'] }) (hx : ev f x = some (.int k a)) (hy : ev f y = some (.int k b)) : Run P o f w (.value (.int k (Min.min a b))) w := fun ρ hρ => by
 have e : (if b < a then b else a) = Min.min a b := by split <;> omega
 simp [execOp, ho, hρ _ _ hx, hρ _ _ hy, resolve, invoke, builtin, go_sem, e]
theorem Run.max (ho : o.op = .call { callee := .builtin .max, args := #[x, y], argTypes := #[t, t'] }) (hx : ev f x = some (.int k a)) (hy : ev f y = some (.int k b)) : Run P o f w (.value (.int k (Max.max a b))) w := fun ρ hρ => by
 have e : (if a < b then b else a) = Max.max a b := by split <;> omega
 simp [execOp, ho, hρ _ _ hx, hρ _ _ hy, resolve, invoke, builtin, go_sem, e]
end
theorem Run.build {P : Program} {w : World} {o : Oper} {f : Fr} {t : TypeId} {parts : Array (Nat × Operand)} {ps : List (Nat × Operand)} {qs : List (Nat × Value)} {vs cl : List Value} (ho : o.op = .build t parts) (hps : parts.toList = ps) (hv : evs f (ps.map (·.2)) = some vs) (hz : (ps.map (·.1)).zip vs = qs) (hb : P.built t qs = some cl.toArray) : Run P o f w (.value (.agg cl.toArray)) w := fun ρ hρ => by
 have e : (parts.map fun p => (p.1, ρ p.2)).toList = qs := by
  rw [Array.toList_map, hps, ← hz]
  have := evs_map hρ hv
  rw [← this]
  clear hz hv hb this hps ho
  induction ps with
  | nil => rfl
  | cons a r ih => simp [ih]
 simp [execOp, ho, run_build w t _ cl.toArray (by rw [e]; exact hb)]
section
variable {P : Program} {w : World} {o : Oper} {f : Fr} {t t' : TypeId} {x y : Operand} {a b : Int}
theorem Run.nilCheck {p : Addr} (ho : o.op = .nilCheck x) (hx : ev f x = some (.pointer (some p))) : Run P o f w (.value (.pointer (some p))) w := fun ρ hρ => by
 simp [execOp, ho, hρ _ _ hx, asAddr, Instr.sureAddr, go_sem]
end
theorem WC.loopV {P : Program} {n : Nat} {c : Code} {Q : Kont} {f : Fr} {w0 w : World} {T : List Nat} {R : Hp} {α : Type} (F : Fr) (hF : Sub F f) (L : α → Hp) (a0 : α) (hst : St w0 T (L a0 ++ R) w) (I : Nat → α → Fr → Prop) (k0 : Nat) (h0 : I k0 a0 f)
  (hr : ∀ k a f w, I k a f → Sub F f → St w0 T (L a ++ R) w → WC P n c (thenK (fun f' w' => Sub F f' ∧ ∃ a', St w0 T (L a' ++ R) w' ∧ ∃ k', k' < k ∧ I k' a' f') Q) f w) : WC P n (.loop c) Q f w :=
 WC.loopN (fun k f w => ∃ a, I k a f ∧ Sub F f ∧ St w0 T (L a ++ R) w) k0 ⟨a0, h0, hF, hst⟩ fun k f w ⟨a, h1, h2, h3⟩ => (hr k a f w h1 h2 h3).mono fun e f' w' q => by
  cases e
  case normal =>
   obtain ⟨q1, a', q2, k', q3, q4⟩ := q
   exact ⟨k', q3, a', q4, q1, q2⟩
  all_goals exact q
section
variable {w0 w : World} {T : List Nat} {L1 L2 L3 L4 L5 L6 L7 L8 L9 R : Hp}
theorem St.grp0 (A : Hp) (h : St w0 T (A ++ R) w) : St w0 T (A ++ R) w := h
theorem St.ungrp0 (A : Hp) (h : St w0 T (A ++ R) w) : St w0 T (A ++ R) w := h
theorem St.grp1 (A : Hp) (h : St w0 T (A ++ (L1 ++ R)) w) : St w0 T ((A ++ (L1)) ++ R) w := by simpa only [List.append_assoc] using h
theorem St.ungrp1 (A : Hp) (h : St w0 T ((A ++ (L1)) ++ R) w) : St w0 T (A ++ (L1 ++ R)) w := by simpa only [List.append_assoc] using h
end
def Bag {α : Type} (own : α → Hp → Prop) : List α → Hp → Prop
 | [], L => L = []
 | x :: r, L => ∃ La Lb, L = La ++ Lb ∧ own x La ∧ Bag own r Lb
section
variable {α : Type} {own : α → Hp → Prop} {xs ys : List α} {x : α} {L La Lb : Hp}
theorem Bag.nil : Bag own [] [] := rfl
theorem Bag.append : ∀ {xs : List α} {La : Hp}, Bag own xs La → Bag own ys Lb → Bag own (xs ++ ys) (La ++ Lb)
 | [], La, h, k => by
  have : La = [] := h
  subst this; exact k
 | x :: r, La, h, k => by
  obtain ⟨L1, L2, rfl, h1, h2⟩ := h
  exact ⟨L1, L2 ++ Lb, by rw [List.append_assoc], h1, Bag.append h2 k⟩
theorem Bag.one (h : own x L) : Bag own [x] L := ⟨L, [], by simp, h, rfl⟩
theorem Bag.snoc (h : Bag own xs La) (k : own x Lb) : Bag own (xs ++ [x]) (La ++ Lb) := h.append (Bag.one k)
theorem Bag.split : ∀ {xs : List α} {L : Hp}, Bag own (xs ++ ys) L → ∃ La Lb, L = La ++ Lb ∧ Bag own xs La ∧ Bag own ys Lb
 | [], L, h => ⟨[], L, rfl, rfl, h⟩
 | x :: r, L, h => by
  obtain ⟨L1, L2, rfl, h1, h2⟩ := h
  obtain ⟨La, Lb, rfl, h3, h4⟩ := Bag.split h2
  exact ⟨L1 ++ La, Lb, by rw [List.append_assoc], ⟨L1, La, rfl, h1, h3⟩, h4⟩
theorem Bag.nth {F : Enc α} : ∀ {xs : List α} {L : Hp} {i : Nat}, Bag own xs L → i < xs.length → ∃ La Li Lb, L = La ++ (Li ++ Lb) ∧ own (gat F xs i) Li ∧ ∀ x' Li', own x' Li' → Bag own (xs.set i x') (La ++ (Li' ++ Lb))
 | [], _, _, _, hi => by simp at hi
 | x :: r, L, 0, h, _ => by
  obtain ⟨L1, L2, rfl, h1, h2⟩ := h
  exact ⟨[], L1, L2, rfl, h1, fun x' Li' hx => ⟨Li', L2, rfl, hx, h2⟩⟩
 | x :: r, L, i + 1, h, hi => by
  obtain ⟨L1, L2, rfl, h1, h2⟩ := h
  obtain ⟨La, Li, Lb, rfl, h3, h4⟩ := Bag.nth (F := F) (i := i) h2 (by simpa using hi)
  exact ⟨L1 ++ La, Li, Lb, by rw [List.append_assoc], by simpa [gat] using h3, fun x' Li' hx => ⟨L1, La ++ (Li' ++ Lb), by rw [List.append_assoc], h1, h4 x' Li' hx⟩⟩
theorem Bag.mem : ∀ {xs : List α} {L : Hp}, Bag own xs L → ∀ x, x ∈ xs → ∃ Li, own x Li ∧ ∀ p, p ∈ Li → p ∈ L
 | [], _, _, x, hx => by cases hx
 | y :: r, L, h, x, hx => by
  obtain ⟨L1, L2, rfl, h1, h2⟩ := h
  rcases List.mem_cons.1 hx with rfl | hx
  ·exact ⟨L1, h1, fun p hp => List.mem_append_left _ hp⟩
  ·obtain ⟨Li, h3, h4⟩ := Bag.mem h2 x hx
   exact ⟨Li, h3, fun p hp => List.mem_append_right _ (h4 p hp)⟩
end
structure SlD (α : Type) where
 A : Option Addr
 n : Nat
 c : Nat
 xs : List α
structure SlN {α : Type} (F : Enc α) (ok : World → α → Prop) (w : World) (A : Option Addr) (n : Nat) (xs : List α) : Prop where
 sl : SlF F w A n xs
 all : ∀ x, x ∈ xs → ok w x
section
variable {α : Type} {F : Enc α} {ok : World → α → Prop} {own : α → Hp → Prop} {w0 w : World} {A : Option Addr} {n c : Nat} {xs : List α} {L L0 L1 : Hp}
theorem SlN.len (h : SlN F ok w A n xs) : xs.length = n := h.sl.len
theorem SlN.nth (h : SlN F ok w A n xs) {i : Nat} (hi : i < n) : ok w (gat F xs i) := h.all _ (gat_mem (by rw [h.sl.len]; exact hi))
theorem SlN.st0 (hk : ∀ {w0 : World} {L : Hp} {w : World} {x : α}, ok w0 x → St w0 [] L w → ok w x) (h : SlN F ok w0 A n xs) (hs : St w0 [] L w) : SlN F ok w A n xs := ⟨SlF.st0 h.sl hs, fun x hx => hk (h.all x hx) hs⟩
theorem SlN.nil (w : World) (A : Option Addr) : SlN F ok w A 0 [] := ⟨SlF.nil _ _, fun x h => by cases h⟩
theorem SlN.ofOwn (hk : ∀ {x : α} {L : Hp} {w : World}, own x L → (∀ p, p ∈ L → w.heap[p.1]? = some p.2) → ok w x) {e : TypeId} (ho : OwnF F e (.slice A n c) xs L0) (hb : Bag own xs L1) (h0 : ∀ p, p ∈ L0 → w.heap[p.1]? = some p.2) (h1 : ∀ p, p ∈ L1 → w.heap[p.1]? = some p.2) : SlN F ok w A n xs :=
 ⟨SlF.ofOwn ho h0, fun x hx => by
  obtain ⟨Li, h2, h3⟩ := hb.mem x hx
  exact hk h2 fun p hp => h1 p (h3 p hp)⟩
end
inductive TK where
 | int (k : IntKind)
 | bool
 | str
 | slice (e : TypeId)
 | struct (offs : List Nat)
 | other
structure TyK where
 k : TK
 sz : Nat
 agg : Bool
inductive TT where
 | leaf
 | node (l : TT) (t : Nat) (v : TyK) (r : TT)
def TT.get : TT → Nat → Option TyK
 | .leaf, _ => none
 | .node l k v r, t => bif Nat.beq t k then some v else bif Nat.blt t k then l.get t else r.get t
section
variable (P : Program)
def AllSz : List Field → Prop
 | [] => True
 | f :: r => (∃ sz, (∀ w, (sizeOf f.type).run P w = .ok sz w) ∧ Nat.beq sz 0 = false) ∧ AllSz r
def TK.Ok (t : TypeId) : TK → Prop
 | .int k => ∀ w, (underlying t).run P w = .ok (.int k) w
 | .bool => ∀ w, (underlying t).run P w = .ok .bool w
 | .str => ∀ w, (underlying t).run P w = .ok .string w
 | .slice e => ∀ w, (underlying t).run P w = .ok (.slice e) w
 | .struct offs => ∃ fs, (∀ w, (underlying t).run P w = .ok (.struct fs) w) ∧ fs.toList.map (·.offset) = offs ∧ AllSz P fs.toList
 | .other => True
def TyK.Ok (t : TypeId) (v : TyK) : Prop := v.k.Ok P t ∧ (∀ w, (sizeOf t).run P w = .ok v.sz w) ∧ (∀ w, (isAgg t).run P w = .ok v.agg w)
def TT.Ok : TT → Prop
 | .leaf => True
 | .node l t v r => l.Ok ∧ v.Ok P t ∧ r.Ok
end
theorem TT.get_ok {P : Program} : ∀ {tb : TT} {t : Nat} {v : TyK}, tb.Ok P → tb.get t = some v → v.Ok P t
 | .leaf, _, _, _, h => by cases h
 | .node l k u r, t, v, h, hg => by
  unfold TT.get at hg
  cases hb : Nat.beq t k with
  | true =>
   rw [hb] at hg
   cases hg
   rw [Nat.eq_of_beq_eq_true hb]
   exact h.2.1
  | false =>
   rw [hb] at hg
   cases hl : Nat.blt t k with
   | true => rw [hl] at hg; exact TT.get_ok h.1 hg
   | false => rw [hl] at hg; exact TT.get_ok h.2.2 hg
theorem allSz_get {P : Program} : ∀ {fs : List Field} {i : Nat} {f : Field}, AllSz P fs → fs[i]? = some f → ∃ sz, (∀ w, (sizeOf f.type).run P w = .ok sz w) ∧ Nat.beq sz 0 = false
 | [], _, _, _, h => by simp at h
 | g :: r, 0, f, h, hi => by simp at hi; subst hi; exact h.1
 | g :: r, i + 1, f, h, hi => allSz_get (fs := r) (i := i) h.2 (by simpa using hi)
def ikB : IntKind → IntKind → Bool
 | .i64, .i64 => true
 | .u8, .u8 => true
 | .u32, .u32 => true
 | _, _ => false
theorem ikB_eq {a b : IntKind} (h : ikB a b = true) : a = b := by
 unfold ikB at h; split at h <;> first | rfl | cases h
def nthV : List Value → Nat → Option Value
 | [], _ => none
 | v :: _, 0 => some v
 | _ :: r, i + 1 => nthV r i
theorem nthV_eq : ∀ (l : List Value) (i : Nat), nthV l i = l[i]?
 | [], _ => by simp [nthV]
 | v :: _, 0 => by simp [nthV]
 | _ :: r, i + 1 => by simp [nthV, nthV_eq r i]
def nthN : List Nat → Nat → Option Nat
 | [], _ => none
 | v :: _, 0 => some v
 | _ :: r, i + 1 => nthN r i
theorem nthN_eq : ∀ (l : List Nat) (i : Nat), nthN l i = l[i]?
 | [], _ => by simp [nthN]
 | v :: _, 0 => by simp [nthN]
 | _ :: r, i + 1 => by simp [nthN, nthN_eq r i]
section
variable {β : Type}
def dropK : List Value → Nat → (List Value → Option β) → Option β
 | l, 0, k => k l
 | [], _ + 1, _ => none
 | _ :: r, i + 1, k => dropK r i k
def takeK : List Value → Nat → (List Value → Option β) → Option β
 | _, 0, k => k []
 | [], _ + 1, _ => none
 | v :: r, i + 1, k => takeK r i fun q => k (v :: q)
theorem dropK_some {k : List Value → Option β} {x : β} : ∀ {l : List Value} {i : Nat}, dropK l i k = some x → k (l.drop i) = some x ∧ i ≤ l.length
 | l, 0, h => ⟨by simpa [dropK] using h, Nat.zero_le _⟩
 | [], i + 1, h => by cases h
 | _ :: r, i + 1, h => by
  have := dropK_some (l := r) (i := i) h
  exact ⟨by simpa using this.1, by simpa using this.2⟩
theorem takeK_some {x : β} : ∀ {l : List Value} {i : Nat} {k : List Value → Option β}, takeK l i k = some x → k (l.take i) = some x ∧ i ≤ l.length
 | l, 0, _, h => ⟨by simpa [takeK] using h, Nat.zero_le _⟩
 | [], i + 1, _, h => by cases h
 | v :: r, i + 1, k, h => by
  have := takeK_some (l := r) (i := i) (k := fun q => k (v :: q)) h
  exact ⟨by simpa using this.1, by simpa using this.2⟩
def sv (tb : TT) (L : Hp) (op : Op) (f : Fr) (h : List Nat) (S : Prop) (k : Value → List Nat → Prop → Option β) : Option β :=
 match op with
 | .move x => match ev f x with
  | some v => k v h S
  | none => none
 | .assign x => match ev f x with
  | some v => k v h S
  | none => none
 | .nilCheck x => match ev f x with
  | some (.pointer (some a)) => k (.pointer (some a)) h S
  | _ => none
 | .unOp u _ x => match u, ev f x with
  | .not, some (.bool b) => k (.bool (!b)) h S
  | .neg, some (.int .i64 a) => k (.int .i64 (-a)) h (In64 (-a) ∧ S)
  | _, _ => none
 | .binOp b t x y _ => match ev f x, ev f y with
  | some (.int ka a), some (.int kb c) => bif ikB ka kb then (match b with
   | .lss => k (.bool (decide (a < c))) h S
   | .leq => k (.bool (decide (a ≤ c))) h S
   | .gtr => k (.bool (decide (c < a))) h S
   | .geq => k (.bool (decide (c ≤ a))) h S
   | .eql => k (.bool (decide (a = c))) h S
   | .neq => k (.bool (!decide (a = c))) h S
   | .add => bif ikB ka .i64 then k (.int .i64 (a + c)) h (In64 (a + c) ∧ S) else none
   | .sub => bif ikB ka .i64 then k (.int .i64 (a - c)) h (In64 (a - c) ∧ S) else none
   | .mul => bif ikB ka .i64 then k (.int .i64 (a * c)) h (In64 (a * c) ∧ S) else none
   | _ => none) else none
  | some (.string a), some (.string c) => (match b with
   | .eql => k (.bool (decide (a = c))) h S
   | .neq => k (.bool (!decide (a = c))) h S
   | _ => none)
  | some (.bool a), some (.bool c) => (match tb.get t with
   | some ⟨.bool, _, _⟩ => (match b with
    | .eql => k (.bool (a == c)) h S
    | .neq => k (.bool (!(a == c))) h S
    | _ => none)
   | _ => none)
  | _, _ => none
 | .convert s d x => match tb.get s, tb.get d with
  | some ⟨.int ks, _, _⟩, some ⟨.int kd, _, _⟩ => (match ev f x with
   | some (.int kv a) => bif ikB kv ks then (bif ikB kd .u8 then k (.int .u8 ((ub a).toNat)) h S else bif ikB kd .i64 then k (.int .i64 a) h (In64 a ∧ S) else none) else none
   | _ => none)
  | _, _ => none
 | .extract x i => match ev f x with
  | some (.tuple vs) => (match nthV vs.toList i with
   | some v => k v h S
   | none => none)
  | _ => none
 | .fieldAddr s x i => match tb.get s, ev f x with
  | some ⟨.struct offs, _, _⟩, some (.pointer (some ⟨b, off, none⟩)) => (match nthN offs i with
   | some o => k (.pointer (some ⟨b, off + o, none⟩)) h S
   | none => none)
  | _, _ => none
 | .load t x => match h with
  | i :: h' => (match tb.get t, ev f x, nthL L i with
   | some ⟨_, sz, ag⟩, some (.pointer (some ⟨b, off, none⟩)), some (b', .cells cs _ _) => bif ag then dropK cs.toList off fun l => takeK l sz fun q => k (.agg q.toArray) h' (b' = b ∧ S)
    else (match nthV cs.toList off with
     | some v => k v h' (b' = b ∧ S)
     | none => none)
   | _, _, _ => none)
  | [] => none
 | .call c => match c.callee, c.args.toList, c.argTypes.toList with
  | .builtin .len, [x], [t] => (match tb.get t, ev f x with
   | some ⟨.slice _, _, _⟩, some (.slice _ l _) => k (.int .i64 l) h S
   | some ⟨.str, _, _⟩, some (.string s) => k (.int .i64 s.size) h S
   | _, _ => none)
  | .builtin .cap, [x], [t] => (match tb.get t, ev f x with
   | some ⟨.slice _, _, _⟩, some (.slice _ _ c) => k (.int .i64 c) h S
   | _, _ => none)
  | .builtin .min, [x, y], [t, t'] => (match ev f x, ev f y with
   | some (.int ka a), some (.int kb c) => bif ikB ka kb then k (.int ka (Min.min a c)) h S else none
   | _, _ => none)
  | .builtin .max, [x, y], [t, t'] => (match ev f x, ev f y with
   | some (.int ka a), some (.int kb c) => bif ikB ka kb then k (.int ka (Max.max a c)) h S else none
   | _, _ => none)
  | _, _, _ => none
 | _ => none
end
section
variable {P : Program} {tb : TT} {w0 w : World} {T : List Nat} {L : Hp} {f : Fr}
theorem sv_ok {β : Type} {op : Op} {h : List Nat} {S : Prop} {k : Value → List Nat → Prop → Option β} {x : β} (htb : tb.Ok P) (hsv : sv tb L op f h S k = some x) :
    ∃ v h' S', k v h' S' = some x ∧ (S' → S ∧ ∀ w, (∀ p, p ∈ L → w.heap[p.1]? = some p.2) → ∀ o : Oper, o.op = op → Run P o f w (.value v) w) := by
  unfold sv at hsv
  split at hsv
  -- move
  · split at hsv
    · rename_i v hv
      exact ⟨_, _, _, hsv, fun hS => ⟨hS, fun w hst o ho => Run.move ho hv⟩⟩
    · cases hsv
  · split at hsv
    · rename_i v hv
      exact ⟨_, _, _, hsv, fun hS => ⟨hS, fun w hst o ho => Run.assign ho hv⟩⟩
    · cases hsv
  · split at hsv
    · rename_i a hv
      exact ⟨_, _, _, hsv, fun hS => ⟨hS, fun w hst o ho => Run.nilCheck ho hv⟩⟩
    · cases hsv
  -- unOp
  · split at hsv
    · rename_i b hv
      exact ⟨_, _, _, hsv, fun hS => ⟨hS, fun w hst o ho => Run.not ho hv⟩⟩
    · rename_i a hv
      exact ⟨_, _, _, hsv, fun hS => ⟨hS.2, fun w hst o ho => Run.neg ho hv (neg_in hS.1)⟩⟩
    · cases hsv
  -- binOp
  · split at hsv
    · rename_i ka a kc c hx hy
      cases hk : ikB ka kc with
      | false => rw [hk] at hsv; cases hsv
      | true =>
        have := ikB_eq hk
        subst this
        rw [hk] at hsv
        dsimp only [cond_true] at hsv
        split at hsv
        · exact ⟨_, _, _, hsv, fun hS => ⟨hS, fun w hst o ho => Run.lss ho hx hy⟩⟩
        · exact ⟨_, _, _, hsv, fun hS => ⟨hS, fun w hst o ho => Run.leq ho hx hy⟩⟩
        · exact ⟨_, _, _, hsv, fun hS => ⟨hS, fun w hst o ho => Run.gtr ho hx hy⟩⟩
        · exact ⟨_, _, _, hsv, fun hS => ⟨hS, fun w hst o ho => Run.geq ho hx hy⟩⟩
        · exact ⟨_, _, _, hsv, fun hS => ⟨hS, fun w hst o ho => Run.eql ho hx hy⟩⟩
        · exact ⟨_, _, _, hsv, fun hS => ⟨hS, fun w hst o ho => Run.neq ho hx hy⟩⟩
        all_goals first
          | (cases hsv; done)
          | (cases h64 : ikB ka .i64 with
             | false => rw [h64] at hsv; cases hsv
             | true =>
               rw [h64] at hsv
               have := ikB_eq h64
               subst this
               first
                 | exact ⟨_, _, _, hsv, fun hS => ⟨hS.2, fun w hst o ho => Run.add ho hx hy hS.1⟩⟩
                 | exact ⟨_, _, _, hsv, fun hS => ⟨hS.2, fun w hst o ho => Run.sub ho hx hy hS.1⟩⟩
                 | exact ⟨_, _, _, hsv, fun hS => ⟨hS.2, fun w hst o ho => Run.mul ho hx hy hS.1⟩⟩)
    · rename_i a c hx hy
      split at hsv
      · exact ⟨_, _, _, hsv, fun hS => ⟨hS, fun w hst o ho => Run.eqlS ho hx hy⟩⟩
      · exact ⟨_, _, _, hsv, fun hS => ⟨hS, fun w hst o ho => Run.neqS ho hx hy⟩⟩
      · cases hsv
    · rename_i a c hx hy
      split at hsv
      · rename_i ht
        have hu := (TT.get_ok htb ht).1
        split at hsv
        · exact ⟨_, _, _, hsv, fun hS => ⟨hS, fun w hst o ho => Run.eqlB hu ho hx hy⟩⟩
        · exact ⟨_, _, _, hsv, fun hS => ⟨hS, fun w hst o ho => Run.neqB hu ho hx hy⟩⟩
        · cases hsv
      · cases hsv
    · cases hsv
  -- convert
  · split at hsv
    · rename_i ks _ _ kd _ _ hs hd
      have hus := (TT.get_ok htb hs).1
      have hud := (TT.get_ok htb hd).1
      split at hsv
      · rename_i kv a hx
        cases hk : ikB kv ks with
        | false => rw [hk] at hsv; cases hsv
        | true =>
          have := ikB_eq hk
          subst this
          rw [hk] at hsv
          dsimp only [cond_true] at hsv
          cases h8 : ikB kd .u8 with
          | true =>
            rw [h8] at hsv
            have := ikB_eq h8
            subst this
            exact ⟨_, _, _, hsv, fun hS => ⟨hS, fun w hst o ho => Run.convU8 hus hud ho hx⟩⟩
          | false =>
            rw [h8] at hsv
            dsimp only [cond_false] at hsv
            cases h64 : ikB kd .i64 with
            | false => rw [h64] at hsv; cases hsv
            | true =>
              rw [h64] at hsv
              have := ikB_eq h64
              subst this
              refine ⟨_, _, _, hsv, fun hS => ⟨hS.2, fun w hst o ho => ?_⟩⟩
              have := Run.conv (P := P) (w := w) hus hud ho hx
              rwa [wrap_in hS.1] at this
      · cases hsv
    · cases hsv
  -- extract
  · split at hsv
    · rename_i vs hx
      split at hsv
      · rename_i v hv
        rw [nthV_eq] at hv
        exact ⟨_, _, _, hsv, fun hS => ⟨hS, fun w hst o ho => Run.extract ho hx hv⟩⟩
      · cases hsv
    · cases hsv
  -- fieldAddr
  · split at hsv
    · rename_i offs _ _ b off ht hx
      obtain ⟨fs, hu, hoffs, hall⟩ := (TT.get_ok htb ht).1
      split at hsv
      · rename_i i _ o hi
        rw [nthN_eq, ← hoffs, List.getElem?_map] at hi
        obtain ⟨fd, hfd, rfl⟩ := Option.map_eq_some_iff.1 hi
        obtain ⟨sz, hz, hz0⟩ := allSz_get hall hfd
        exact ⟨_, _, _, hsv, fun hS => ⟨hS, fun w hst o ho => Run.field hu ho hx hfd hz hz0⟩⟩
      · cases hsv
    · cases hsv
  -- load
  · split at hsv
    · split at hsv
      · rename_i i h' _ sz ag b off b' cs e fz ht hx hi
        obtain ⟨-, hz, hag⟩ := TT.get_ok htb ht
        cases ag with
        | true =>
          dsimp only [cond_true] at hsv
          obtain ⟨h1, hlo⟩ := dropK_some hsv
          obtain ⟨h2, hln⟩ := takeK_some h1
          refine ⟨_, _, _, h2, fun hS => ⟨hS.2, fun w hst o ho => ?_⟩⟩
          obtain ⟨rfl, -⟩ := hS
          have hh := hst _ (nthL_mem hi)
          refine Run.loadA hag hz ho hx (cells_of_heap (cl := cs.toList) (by simpa using hh) rfl ?_)
          rw [List.length_take]; exact Nat.min_eq_left hln
        | false =>
          dsimp only [cond_false] at hsv
          split at hsv
          · rename_i v hv
            rw [nthV_eq] at hv
            refine ⟨_, _, _, hsv, fun hS => ⟨hS.2, fun w hst o ho => ?_⟩⟩
            obtain ⟨rfl, -⟩ := hS
            have hh := hst _ (nthL_mem hi)
            exact Run.load hag ho hx (cell_of_heap (cl := cs.toList) (by simpa using hh) hv)
          · cases hsv
      · cases hsv
    · cases hsv
  -- call
  · rename_i c
    split at hsv
    · rename_i x t hc ha ht
      have e : ∀ o : Oper, o.op = .call c → o.op = .call { callee := .builtin .len, args := #[x], argTypes := #[t] } := fun o ho => by
        rw [ho]
        obtain ⟨c1, c2, c3⟩ := c
        simp only at hc ha ht
        subst hc
        congr 2
        · exact Array.toList_inj.1 ha
        · exact Array.toList_inj.1 ht
      split at hsv
      · rename_i _ _ _ _ l _ hg hx
        exact ⟨_, _, _, hsv, fun hS => ⟨hS, fun w hst o ho => Run.lenSl (TT.get_ok htb hg).1 (e o ho) hx⟩⟩
      · rename_i hg hx
        exact ⟨_, _, _, hsv, fun hS => ⟨hS, fun w hst o ho => Run.lenStr (TT.get_ok htb hg).1 (e o ho) hx⟩⟩
      · cases hsv
    · rename_i x t hc ha ht
      have e : ∀ o : Oper, o.op = .call c → o.op = .call { callee := .builtin .cap, args := #[x], argTypes := #[t] } := fun o ho => by
        rw [ho]
        obtain ⟨c1, c2, c3⟩ := c
        simp only at hc ha ht
        subst hc
        congr 2
        · exact Array.toList_inj.1 ha
        · exact Array.toList_inj.1 ht
      split at hsv
      · rename_i hg hx
        exact ⟨_, _, _, hsv, fun hS => ⟨hS, fun w hst o ho => Run.capSl (TT.get_ok htb hg).1 (e o ho) hx⟩⟩
      · cases hsv
    · rename_i x y t t' hc ha ht
      have e : ∀ o : Oper, o.op = .call c → o.op = .call { callee := .builtin .min, args := #[x, y], argTypes := #[t, t'] } := fun o ho => by
        rw [ho]
        obtain ⟨c1, c2, c3⟩ := c
        simp only at hc ha ht
        subst hc
        congr 2
        · exact Array.toList_inj.1 ha
        · exact Array.toList_inj.1 ht
      split at hsv
      · rename_i ka a kc c hx hy
        cases hk : ikB ka kc with
        | false => rw [hk] at hsv; cases hsv
        | true =>
          have := ikB_eq hk
          subst this
          rw [hk] at hsv
          exact ⟨_, _, _, hsv, fun hS => ⟨hS, fun w hst o ho => Run.min (e o ho) hx hy⟩⟩
      · cases hsv
    · rename_i x y t t' hc ha ht
      have e : ∀ o : Oper, o.op = .call c → o.op = .call { callee := .builtin .max, args := #[x, y], argTypes := #[t, t'] } := fun o ho => by
        rw [ho]
        obtain ⟨c1, c2, c3⟩ := c
        simp only at hc ha ht
        subst hc
        congr 2
        · exact Array.toList_inj.1 ha
        · exact Array.toList_inj.1 ht
      split at hsv
      · rename_i ka a kc c hx hy
        cases hk : ikB ka kc with
        | false => rw [hk] at hsv; cases hsv
        | true =>
          have := ikB_eq hk
          subst this
          rw [hk] at hsv
          exact ⟨_, _, _, hsv, fun hS => ⟨hS, fun w hst o ho => Run.max (e o ho) hx hy⟩⟩
      · cases hsv
    · cases hsv
  · cases hsv
end
def SubS (F f : Fr) : Prop := ∀ i v, lk F i = some v → lk f i = some v
theorem SubS.refl (f : Fr) : SubS f f := fun _ _ h => h
theorem SubS.trans {F G f : Fr} (h : SubS F G) (k : SubS G f) : SubS F f := fun i v hi => k i v (h i v hi)
theorem SubS.cons {F f : Fr} {d : Nat} {v : Value} (h : SubS F f) (hd : lk F d = none) : SubS F ((d, v) :: f) := fun i u hi => by
 unfold lk
 cases hb : Nat.beq d i with
 | true =>
  rw [Nat.eq_of_beq_eq_true hb] at hd
  rw [hd] at hi; cases hi
 | false => exact h i u hi
theorem SubS.put {F f : Fr} {d : Nat} {v : Value} (h : SubS F f) (hv : lk f d = some v) : SubS ((d, v) :: F) f := fun i u hi => by
 unfold lk at hi
 cases hb : Nat.beq d i with
 | true =>
  rw [hb] at hi
  rw [← Nat.eq_of_beq_eq_true hb, hv]
  exact hi
 | false =>
  rw [hb] at hi
  exact h i u hi
theorem SubS.head {F f : Fr} {d : Nat} {v : Value} (h : SubS F f) : SubS ((d, v) :: F) ((d, v) :: f) := fun i u hi => by
 unfold lk at hi ⊢
 cases hb : Nat.beq d i with
 | true => rw [hb] at hi; exact hi
 | false => rw [hb] at hi; exact h i u hi
def subB (F : Fr) : Nat → Fr → Option Fr
 | 0, f => some f
 | _ + 1, [] => none
 | k + 1, (d, _) :: f => match lk F d with
  | none => subB F k f
  | some _ => none
theorem subB_ok {F : Fr} : ∀ {k : Nat} {f : Fr}, subB F k f = some F → SubS F f
 | 0, f, h => by simp [subB] at h; subst h; exact SubS.refl _
 | k + 1, [], h => by cases h
 | k + 1, (d, v) :: f, h => by
  unfold subB at h
  split at h
  ·rename_i hd; exact (subB_ok h).cons hd
  ·cases h
theorem Good.subS {a : Act} {n : Nat} {F f : Fr} (h : Good a n f) (hs : SubS F f) : Good a n F := ⟨h.size, h.defers, fun i v hv => h.at_ i v (hs i v hv)⟩
theorem WC.subS {P : Program} {n : Nat} {Q : Kont} {c : Code} {F f : Fr} {w : World} (hs : SubS F f) (h : WC P n c Q F w) : WC P n c Q f w := fun a ha => h a (ha.subS hs)
section
variable {P : Program} {w : World} {n : Nat} {ol : List Oper} {K : Fr → World → Prop} {KQ : Fr → Prop} {C : World → Prop}
theorem WL.subS {l : List Oper} {F f : Fr} (hs : SubS F f) (h : WL P n ol l K F w) : WL P n ol l K f w := fun Q a ha hk => h Q a (ha.subS hs) hk
theorem WQ.subS {l : List Oper} {F f : Fr} (hs : SubS F f) (h : WQ P n ol l C KQ F) : WQ P n ol l C KQ f := fun a ha => h a (ha.subS hs)
end
def actB : List (Nat × Bool) → Nat → Bool → Bool
 | [], _, _ => false
 | (j, b) :: r, i, c => (Nat.beq j i && (b == c)) || actB r i c
def Acts (ol : List Oper) (act : List (Nat × Bool)) (f : Fr) : Prop := ∀ j b, actB act j b = true → ∃ oj dj, nthO ol j = some oj ∧ oj.dst = some dj ∧ lk f dj = some (.bool b)
theorem Acts.nil {ol : List Oper} {f : Fr} : Acts ol [] f := fun _ _ h => by cases h
def actH (ol : List Oper) (j : Nat) (f : Fr) : Option Bool :=
 match nthO ol j with
 | some oj => (match oj.dst with
  | some dj => (match lk f dj with
   | some (.bool g) => some g
   | _ => none)
  | none => none)
 | none => none
theorem actH_ok {ol : List Oper} {j : Nat} {f : Fr} {g : Bool} (h : actH ol j f = some g) : ∃ oj dj, nthO ol j = some oj ∧ oj.dst = some dj ∧ lk f dj = some (.bool g) := by
 unfold actH at h
 split at h
 ·rename_i oj hj
  split at h
  ·rename_i dj hd
   split at h
   ·rename_i g' hl
    cases h
    exact ⟨_, _, hj, hd, hl⟩
   ·cases h
  ·cases h
 ·cases h
theorem Acts.cons {ol : List Oper} {act : List (Nat × Bool)} {f : Fr} {j : Nat} {g b : Bool} (h : Acts ol act f) (hj : actH ol j f = some g) (hg : g = b) : Acts ol ((j, b) :: act) f := fun i c hi => by
 simp only [actB, Bool.or_eq_true, Bool.and_eq_true, beq_iff_eq] at hi
 rcases hi with ⟨h1, rfl⟩ | hi
 ·rw [← Nat.eq_of_beq_eq_true h1, ← hg]; exact actH_ok hj
 ·exact h i c hi
theorem Acts.put {ol : List Oper} {act : List (Nat × Bool)} {f : Fr} {d : Nat} {v : Value} (h : Acts ol act f) (hd : lk f d = none) : Acts ol act ((d, v) :: f) := fun i c hi => by
 obtain ⟨oj, dj, h1, h2, h3⟩ := h i c hi
 exact ⟨oj, dj, h1, h2, (SubS.refl f).cons hd dj _ h3⟩
def wantA (ol : List Oper) (act : List (Nat × Bool)) (o : Oper) (f : Fr) : Bool :=
 match o.guard with
 | none => true
 | some (j, b) => actB act j b
theorem wantA_ok {ol : List Oper} {act : List (Nat × Bool)} {o : Oper} {f : Fr} (ha : Acts ol act f) (h : wantA ol act o f = true) : want ol o f = some true := by
 unfold wantA at h
 unfold want
 cases hg : o.guard with
 | none => rfl
 | some p =>
  obtain ⟨j, b⟩ := p
  rw [hg] at h
  obtain ⟨oj, dj, h1, h2, h3⟩ := ha j b h
  simp [h1, h2, h3]
def frB (act : List (Nat × Bool)) (f : Fr) (d : Nat) : Bool :=
 match act with
 | [] => true
 | _ :: _ => match lk f d with
  | none => true
  | some _ => false
theorem frB_ok {ol : List Oper} {act : List (Nat × Bool)} {f : Fr} {d : Nat} {v : Value} (ha : Acts ol act f) (h : frB act f d = true) : Acts ol act ((d, v) :: f) := by
 cases act with
 | nil => exact Acts.nil
 | cons p r =>
  unfold frB at h
  simp only at h
  split at h
  ·rename_i hd; exact ha.put hd
  ·cases h
def runs (tb : TT) (n : Nat) (ol : List Oper) (L : Hp) (act : List (Nat × Bool)) : Nat → List Oper → Fr → List Nat → Prop → Option (List Oper × Fr × Prop)
 | 0, l, f, _, S => some (l, f, S)
 | _ + 1, [], _, _, _ => none
 | m + 1, o :: r, f, h, S => match o.dst with
  | some d => bif wantA ol act o f && Nat.blt d n && frB act f d then sv tb L o.op f h S fun v h' S' => runs tb n ol L act m r ((d, v) :: f) h' S' else none
  | none => none
section
variable {P : Program} {tb : TT} {w0 w : World} {T : List Nat} {L : Hp} {n : Nat} {ol : List Oper} {act : List (Nat × Bool)} {K : Fr → World → Prop} {KQ : Fr → Prop} {C : World → Prop}
theorem runs_ok (htb : tb.Ok P) : ∀ {m : Nat} {l l' : List Oper} {f f' : Fr} {h : List Nat} {S S' : Prop}, Acts ol act f → runs tb n ol L act m l f h S = some (l', f', S') → S' → S ∧ Acts ol act f' ∧ (∀ w, St w0 T L w → WL P n ol l' K f' w → WL P n ol l K f w) ∧ (WQ P n ol l' (fun w' => St w0 T L w') KQ f' → WQ P n ol l (fun w' => St w0 T L w') KQ f)
 | 0, l, l', f, f', h, S, S', ha, hr, hS => by
  simp only [runs, Option.some.injEq, Prod.mk.injEq] at hr
  obtain ⟨rfl, rfl, rfl⟩ := hr
  exact ⟨hS, ha, fun _ _ => id, id⟩
 | m + 1, [], l', f, f', h, S, S', ha, hr, hS => by cases hr
 | m + 1, o :: r, l', f, f', h, S, S', ha, hr, hS => by
  unfold runs at hr
  split at hr
  ·rename_i d hd
   cases hc : (wantA ol act o f && Nat.blt d n && frB act f d) with
   | false => rw [hc] at hr; cases hr
   | true =>
    rw [hc] at hr
    dsimp only [cond_true] at hr
    simp only [Bool.and_eq_true] at hc
    obtain ⟨v, h', S1, hk, hv⟩ := sv_ok htb hr
    obtain ⟨h1, h2, h3, h4⟩ := runs_ok htb (frB_ok ha hc.2) hk hS
    obtain ⟨h5, h6⟩ := hv h1
    have hw := wantA_ok ha hc.1.1
    exact ⟨h5, h2, fun w hst hl => WL.val hw hd hc.1.2 (h6 w (fun p hp => (hst.own p hp).1) o rfl) (h3 w hst hl), fun hl => WQ.val hw hd hc.1.2 (fun w hst => h6 w (fun p hp => (hst.own p hp).1) o rfl) (h4 hl)⟩
  ·cases hr
theorem WL.run (htb : tb.Ok P) (m : Nat) (hst : St w0 T L w) (h : List Nat) {l l' : List Oper} {f f' : Fr} {S : Prop} (hr : runs tb n ol L [] m l f h True = some (l', f', S)) (hS : S) (k : WL P n ol l' K f' w) : WL P n ol l K f w :=
 (runs_ok (KQ := fun _ => True) htb Acts.nil hr hS).2.2.1 w hst k
theorem WL.runA {f : Fr} (htb : tb.Ok P) (m : Nat) (ha : Acts ol act f) (hst : St w0 T L w) (h : List Nat) {l l' : List Oper} {f' : Fr} {S : Prop} (hr : runs tb n ol L act m l f h True = some (l', f', S)) (hS : S) (k : WL P n ol l' K f' w) : WL P n ol l K f w :=
 (runs_ok (KQ := fun _ => True) htb ha hr hS).2.2.1 w hst k
theorem WQ.run (htb : tb.Ok P) (m : Nat) (h : List Nat) {l l' : List Oper} {f f' : Fr} {S : Prop} (hr : runs tb n ol L [] m l f h True = some (l', f', S)) (hS : S) (k : WQ P n ol l' (fun w' => St w0 T L w') KQ f') : WQ P n ol l (fun w' => St w0 T L w') KQ f :=
 (runs_ok (K := fun _ _ => True) htb Acts.nil hr hS).2.2.2 k
theorem WQ.runA {f : Fr} (htb : tb.Ok P) (m : Nat) (ha : Acts ol act f) (h : List Nat) {l l' : List Oper} {f' : Fr} {S : Prop} (hr : runs tb n ol L act m l f h True = some (l', f', S)) (hS : S) (k : WQ P n ol l' (fun w' => St w0 T L w') KQ f') : WQ P n ol l (fun w' => St w0 T L w') KQ f :=
 (runs_ok (K := fun _ _ => True) htb ha hr hS).2.2.2 k
def skG (n : Nat) (ol : List Oper) (j : Nat) (bb : Bool) : Nat → List Oper → Fr → Option (List Oper × Fr)
 | 0, l, f => some (l, f)
 | _ + 1, [], _ => none
 | m + 1, o :: r, f => match o.dst with
  | some d => (match lk f d with
   | none => bif Nat.blt d n then (match o.guard with
    | some (i, b) => bif Nat.beq i j && (b == bb) then skG n ol j bb m r ((d, undef) :: f) else (match want ol o f with
     | some false => skG n ol j bb m r ((d, undef) :: f)
     | _ => none)
    | none => none) else none
   | some _ => none)
  | none => none
theorem skG_ok {j : Nat} {bb : Bool} : ∀ {m : Nat} {l l' : List Oper} {f f' : Fr}, actH ol j f = some (!bb) → skG n ol j bb m l f = some (l', f') → SubS f f' ∧ (∀ w, WL P n ol l' K f' w → WL P n ol l K f w) ∧ (WQ P n ol l' C KQ f' → WQ P n ol l C KQ f)
 | 0, l, l', f, f', ha, h => by
  simp only [skG, Option.some.injEq, Prod.mk.injEq] at h
  obtain ⟨rfl, rfl⟩ := h
  exact ⟨SubS.refl _, fun _ => id, id⟩
 | m + 1, [], l', f, f', ha, h => by cases h
 | m + 1, o :: r, l', f, f', ha, h => by
  unfold skG at h
  split at h
  ·rename_i d hd
   split at h
   ·rename_i hf
    cases hn : Nat.blt d n with
    | false => rw [hn] at h; cases h
    | true =>
     rw [hn] at h
     dsimp only [cond_true] at h
     have ha' : actH ol j ((d, undef) :: f) = some (!bb) := by
      obtain ⟨oj, dj, h1, h2, h3⟩ := actH_ok ha
      have := (SubS.refl f).cons (v := undef) hf dj _ h3
      unfold actH
      rw [h1]; simp only [h2, this]
     have fin : want ol o f = some false → skG n ol j bb m r ((d, undef) :: f) = some (l', f') → SubS f f' ∧ (∀ w, WL P n ol l' K f' w → WL P n ol (o :: r) K f w) ∧ (WQ P n ol l' C KQ f' → WQ P n ol (o :: r) C KQ f) := fun hw hk => by
      obtain ⟨h1, h2, h3⟩ := skG_ok ha' hk
      exact ⟨(SubS.refl f).cons hf |>.trans h1, fun w hl => WL.skip hw hd hn (h2 w hl), fun hl => WQ.skip hw hd hn (h3 hl)⟩
     split at h
     ·rename_i i b hgd
      cases hc : (Nat.beq i j && (b == bb)) with
      | true =>
       rw [hc] at h
       simp only [Bool.and_eq_true, beq_iff_eq] at hc
       obtain ⟨h1, rfl⟩ := hc
       obtain ⟨oj, dj, g1, g2, g3⟩ := actH_ok ha
       rw [← Nat.eq_of_beq_eq_true h1] at g1
       refine fin ?_ h
       unfold want
       simp only [hgd, g1, g2, g3]
       cases b <;> rfl
      | false =>
       rw [hc] at h
       dsimp only [cond_false] at h
       split at h
       ·rename_i hw; exact fin hw h
       ·cases h
     ·cases h
   ·cases h
  ·cases h
def actD (ol : List Oper) (j : Nat) : Option Nat :=
 match nthO ol j with
 | some oj => oj.dst
 | none => none
def grpH (n : Nat) (ol : List Oper) (act : List (Nat × Bool)) (e : Nat) (l : List Oper) (f : Fr) : Option (Bool × Bool × Nat × Nat × List Oper) :=
 match l with
 | o1 :: _ => (match o1.guard with
  | some (j, bb) => (match actH ol j f, actD ol j, skG n ol j bb e l f with
   | some g, some dj, some (o :: rest, _) => (match o.dst, o.op with
    | some d, .pick (.tmp t) x y => bif wantA ol act o f && Nat.blt d n && Nat.beq t dj then (match bb, x, y with
     | true, _, .const (.bool false) => some (true, g, j, d, rest)
     | false, .const (.bool true), _ => some (false, g, j, d, rest)
     | _, _, _ => none) else none
    | _, _ => none)
   | _, _, _ => none)
  | none => none)
 | [] => none
theorem Acts.subS {ol : List Oper} {act : List (Nat × Bool)} {F f : Fr} (h : Acts ol act F) (hs : SubS F f) : Acts ol act f := fun i c hi => by
 obtain ⟨oj, dj, h1, h2, h3⟩ := h i c hi
 exact ⟨oj, dj, h1, h2, hs _ _ h3⟩
theorem wantA_ok' {ol : List Oper} {act : List (Nat × Bool)} {o : Oper} {F f : Fr} (ha : Acts ol act f) (h : wantA ol act o F = true) : want ol o f = some true := wantA_ok (f := f) ha (by unfold wantA at h ⊢; exact h)
theorem want_none {o : Oper} {f : Fr} (h : o.guard = none) : want ol o f = some true := by unfold want; rw [h]
theorem grpH_ok {e : Nat} {l rest : List Oper} {f : Fr} {bb g : Bool} {j d : Nat} (ha : Acts ol act f) (h : grpH n ol act e l f = some (bb, g, j, d, rest)) :
  actH ol j f = some g ∧ (g = !bb → (∀ w, WL P n ol rest K ((d, .bool (!bb)) :: f) w → WL P n ol l K f w) ∧ (WQ P n ol rest C KQ ((d, .bool (!bb)) :: f) → WQ P n ol l C KQ f)) := by
 unfold grpH at h
 split at h
 ·rename_i o1 r
  split at h
  ·rename_i j' b' hgd
   split at h
   ·rename_i g' dj o rest' f' hact hdj hsk
    split at h
    ·rename_i d' t x y hdst hop
     cases hc : (wantA ol act o f && Nat.blt d' n && Nat.beq t dj) with
     | false => rw [hc] at h; cases h
     | true =>
      rw [hc] at h
      dsimp only [cond_true] at h
      simp only [Bool.and_eq_true] at hc
      have main : bb = b' → g = g' → j = j' → d = d' → rest = rest' → (∀ F : Fr, lk F t = some (.bool g') → g' = !b' → ∀ w, Run P o F w (.value (.bool (!b'))) w) →
        actH ol j f = some g ∧ (g = !bb → (∀ w, WL P n ol rest K ((d, .bool (!bb)) :: f) w → WL P n ol (o1 :: r) K f w) ∧ (WQ P n ol rest C KQ ((d, .bool (!bb)) :: f) → WQ P n ol (o1 :: r) C KQ f)) := by
       rintro rfl rfl rfl rfl rfl hrun
       refine ⟨hact, fun hg => ?_⟩
       obtain ⟨h1, h2, h3⟩ := skG_ok (P := P) (K := K) (KQ := KQ) (C := C) (by rw [hact, hg]) hsk
       obtain ⟨oj, dj', e1, e2, e3⟩ := actH_ok hact
       have hdd : dj' = dj := by
        unfold actD at hdj
        rw [e1] at hdj
        simp only at hdj
        rw [e2] at hdj
        exact Option.some.inj hdj
       have ht : lk f' t = some (.bool g) := by
        rw [Nat.eq_of_beq_eq_true hc.2, ← hdd]
        exact h1 _ _ e3
       exact ⟨fun w hl => h2 w (WL.val (wantA_ok' (ha.subS h1) hc.1.1) hdst hc.1.2 (hrun f' ht hg w) (WL.subS h1.head hl)),
        fun hl => h3 (WQ.val (wantA_ok' (ha.subS h1) hc.1.1) hdst hc.1.2 (fun w _ => hrun f' ht hg w) (WQ.subS h1.head hl))⟩
      split at h
      ·simp only [Option.some.injEq, Prod.mk.injEq] at h
       obtain ⟨rfl, rfl, rfl, rfl, rfl⟩ := h
       exact main rfl rfl rfl rfl rfl fun F hF hg w => Run.pickF hop hF hg rfl
      ·simp only [Option.some.injEq, Prod.mk.injEq] at h
       obtain ⟨rfl, rfl, rfl, rfl, rfl⟩ := h
       exact main rfl rfl rfl rfl rfl fun F hF hg w => Run.pickT hop hF hg rfl
      ·cases h
    ·cases h
   ·cases h
  ·cases h
 ·cases h
def pickH (n : Nat) (ol : List Oper) (act : List (Nat × Bool)) (o : Oper) (bb : Bool) (F : Fr) : Option (Nat × Bool × Bool) :=
 match o.dst, o.op with
 | some d, .pick c x y => bif wantA ol act o F && Nat.blt d n then (match ev F c, (bif bb then ev F x else ev F y) with
  | some (.bool g), some (.bool b) => some (d, g, b)
  | _, _ => none) else none
 | _, _ => none
theorem pickH_ok {o : Oper} {bb : Bool} {F : Fr} {d : Nat} {g b : Bool} (ha : Acts ol act F) (h : pickH n ol act o bb F = some (d, g, b)) : want ol o F = some true ∧ o.dst = some d ∧ Nat.blt d n = true ∧ (g = bb → ∀ w, Run P o F w (.value (.bool b)) w) := by
 unfold pickH at h
 split at h
 ·rename_i d' c x y h2 h3
  cases hn : (wantA ol act o F && Nat.blt d' n) with
  | false => rw [hn] at h; cases h
  | true =>
   rw [hn] at h
   dsimp only [cond_true] at h
   simp only [Bool.and_eq_true] at hn
   split at h
   ·rename_i g' b' hc hb
    simp only [Option.some.injEq, Prod.mk.injEq] at h
    obtain ⟨rfl, rfl, rfl⟩ := h
    refine ⟨wantA_ok ha hn.1, h2, hn.2, fun hg w => ?_⟩
    cases bb with
    | true => exact Run.pickT h3 hc hg hb
    | false => exact Run.pickF h3 hc hg hb
   ·cases h
 ·cases h
theorem WL.gA {l rest : List Oper} {f : Fr} {g b : Bool} {j d : Nat} (e : Nat) (ha : Acts ol act f) (hst : St w0 T L w) (hh : grpH n ol act e l f = some (true, g, j, d, rest)) (hT : g = true → (∀ w', St w0 T L w' → WL P n ol rest K ((d, .bool (g && b)) :: f) w') → WL P n ol l K f w)
  (J : (∀ w', St w0 T L w' → WL P n ol rest K ((d, .bool (g && b)) :: f) w')) : WL P n ol l K f w := by
 obtain ⟨h1, h2⟩ := grpH_ok (P := P) (K := K) (KQ := fun _ => True) (C := fun _ => True) ha hh
 cases g with
 | true => exact hT rfl J
 | false => exact (h2 rfl).1 w (J w hst)
theorem WL.eA {o : Oper} {rest : List Oper} {F f : Fr} {g b : Bool} {d : Nat} (k : Nat) (ha : Acts ol act F) (J : (∀ w', St w0 T L w' → WL P n ol rest K ((d, .bool (g && b)) :: f) w')) (hst : St w0 T L w) (hg : g = true) (hp : pickH n ol act o true F = some (d, g, b)) (hs : subB f k F = some f) : WL P n ol (o :: rest) K F w := by
 obtain ⟨h1, h2, h3, h4⟩ := pickH_ok (P := P) ha hp
 refine WL.val h1 h2 h3 (h4 hg w) (WL.subS (subB_ok hs).head ?_)
 have := J w hst
 rwa [hg, Bool.true_and] at this
theorem WL.pA {l rest : List Oper} {o : Oper} {f F : Fr} {g b : Bool} {j d : Nat} {S : Prop} (htb : tb.Ok P) (e : Nat) (ha : Acts ol act f) (hst : St w0 T L w) (h : List Nat) (hh : grpH n ol act e l f = some (true, g, j, d, rest)) (hr : runs tb n ol L ((j, true) :: act) e l f h True = some (o :: rest, F, S)) (hp : pickH n ol act o true F = some (d, g, b)) (hs : subB f e F = some f) (hS : g = true → S)
  (k : WL P n ol rest K ((d, .bool (g && b)) :: f) w) : WL P n ol l K f w := by
 obtain ⟨h1, h2⟩ := grpH_ok (P := P) (K := K) (KQ := fun _ => True) (C := fun _ => True) ha hh
 cases hg : g with
 | true =>
  subst hg
  obtain ⟨p1, p2, p3, p4⟩ := pickH_ok (P := P) (ha.subS (subB_ok hs)) hp
  refine WL.runA htb e (ha.cons h1 rfl) hst h hr (hS rfl) (WL.val p1 p2 p3 (p4 rfl w) (WL.subS (subB_ok hs).head ?_))
  rwa [Bool.true_and] at k
 | false => subst hg; exact (h2 rfl).1 w k
theorem WQ.gA {l rest : List Oper} {f : Fr} {g b : Bool} {j d : Nat} (e : Nat) (ha : Acts ol act f) (hh : grpH n ol act e l f = some (true, g, j, d, rest)) (hT : g = true → WQ P n ol rest C KQ ((d, .bool (g && b)) :: f) → WQ P n ol l C KQ f)
  (J : WQ P n ol rest C KQ ((d, .bool (g && b)) :: f)) : WQ P n ol l C KQ f := by
 obtain ⟨h1, h2⟩ := grpH_ok (P := P) (K := fun _ _ => True) (KQ := KQ) (C := C) ha hh
 cases g with
 | true => exact hT rfl J
 | false => exact (h2 rfl).2 J
theorem WQ.eA {o : Oper} {rest : List Oper} {F f : Fr} {g b : Bool} {d : Nat} (k : Nat) (ha : Acts ol act F) (J : WQ P n ol rest C KQ ((d, .bool (g && b)) :: f)) (hg : g = true) (hp : pickH n ol act o true F = some (d, g, b)) (hs : subB f k F = some f) : WQ P n ol (o :: rest) C KQ F := by
 obtain ⟨h1, h2, h3, h4⟩ := pickH_ok (P := P) ha hp
 refine WQ.val h1 h2 h3 (fun w _ => h4 hg w) (WQ.subS (subB_ok hs).head ?_)
 rwa [hg, Bool.true_and] at J
theorem WQ.pA {l rest : List Oper} {o : Oper} {f F : Fr} {g b : Bool} {j d : Nat} {S : Prop} (htb : tb.Ok P) (e : Nat) (ha : Acts ol act f) (h : List Nat) (hh : grpH n ol act e l f = some (true, g, j, d, rest)) (hr : runs tb n ol L ((j, true) :: act) e l f h True = some (o :: rest, F, S)) (hp : pickH n ol act o true F = some (d, g, b)) (hs : subB f e F = some f) (hS : g = true → S)
  (k : WQ P n ol rest (fun w' => St w0 T L w') KQ ((d, .bool (g && b)) :: f)) : WQ P n ol l (fun w' => St w0 T L w') KQ f := by
 obtain ⟨h1, h2⟩ := grpH_ok (P := P) (K := fun _ _ => True) (KQ := KQ) (C := fun w' => St w0 T L w') ha hh
 cases hg : g with
 | true =>
  subst hg
  obtain ⟨p1, p2, p3, p4⟩ := pickH_ok (P := P) (ha.subS (subB_ok hs)) hp
  refine WQ.runA htb e (ha.cons h1 rfl) h hr (hS rfl) (WQ.val p1 p2 p3 (fun w _ => p4 rfl w) (WQ.subS (subB_ok hs).head ?_))
  rwa [Bool.true_and] at k
 | false => subst hg; exact (h2 rfl).2 k
theorem WL.gO {l rest : List Oper} {f : Fr} {g b : Bool} {j d : Nat} (e : Nat) (ha : Acts ol act f) (hst : St w0 T L w) (hh : grpH n ol act e l f = some (false, g, j, d, rest)) (hT : g = false → (∀ w', St w0 T L w' → WL P n ol rest K ((d, .bool (g || b)) :: f) w') → WL P n ol l K f w)
  (J : (∀ w', St w0 T L w' → WL P n ol rest K ((d, .bool (g || b)) :: f) w')) : WL P n ol l K f w := by
 obtain ⟨h1, h2⟩ := grpH_ok (P := P) (K := K) (KQ := fun _ => True) (C := fun _ => True) ha hh
 cases g with
 | false => exact hT rfl J
 | true => exact (h2 rfl).1 w (J w hst)
theorem WL.eO {o : Oper} {rest : List Oper} {F f : Fr} {g b : Bool} {d : Nat} (k : Nat) (ha : Acts ol act F) (J : (∀ w', St w0 T L w' → WL P n ol rest K ((d, .bool (g || b)) :: f) w')) (hst : St w0 T L w) (hg : g = false) (hp : pickH n ol act o false F = some (d, g, b)) (hs : subB f k F = some f) : WL P n ol (o :: rest) K F w := by
 obtain ⟨h1, h2, h3, h4⟩ := pickH_ok (P := P) ha hp
 refine WL.val h1 h2 h3 (h4 hg w) (WL.subS (subB_ok hs).head ?_)
 have := J w hst
 rwa [hg, Bool.false_or] at this
theorem WL.pO {l rest : List Oper} {o : Oper} {f F : Fr} {g b : Bool} {j d : Nat} {S : Prop} (htb : tb.Ok P) (e : Nat) (ha : Acts ol act f) (hst : St w0 T L w) (h : List Nat) (hh : grpH n ol act e l f = some (false, g, j, d, rest)) (hr : runs tb n ol L ((j, false) :: act) e l f h True = some (o :: rest, F, S)) (hp : pickH n ol act o false F = some (d, g, b)) (hs : subB f e F = some f) (hS : g = false → S)
  (k : WL P n ol rest K ((d, .bool (g || b)) :: f) w) : WL P n ol l K f w := by
 obtain ⟨h1, h2⟩ := grpH_ok (P := P) (K := K) (KQ := fun _ => True) (C := fun _ => True) ha hh
 cases hg : g with
 | false =>
  subst hg
  obtain ⟨p1, p2, p3, p4⟩ := pickH_ok (P := P) (ha.subS (subB_ok hs)) hp
  refine WL.runA htb e (ha.cons h1 rfl) hst h hr (hS rfl) (WL.val p1 p2 p3 (p4 rfl w) (WL.subS (subB_ok hs).head ?_))
  rwa [Bool.false_or] at k
 | true => subst hg; exact (h2 rfl).1 w k
theorem WQ.gO {l rest : List Oper} {f : Fr} {g b : Bool} {j d : Nat} (e : Nat) (ha : Acts ol act f) (hh : grpH n ol act e l f = some (false, g, j, d, rest)) (hT : g = false → WQ P n ol rest C KQ ((d, .bool (g || b)) :: f) → WQ P n ol l C KQ f)
  (J : WQ P n ol rest C KQ ((d, .bool (g || b)) :: f)) : WQ P n ol l C KQ f := by
 obtain ⟨h1, h2⟩ := grpH_ok (P := P) (K := fun _ _ => True) (KQ := KQ) (C := C) ha hh
 cases g with
 | false => exact hT rfl J
 | true => exact (h2 rfl).2 J
theorem WQ.eO {o : Oper} {rest : List Oper} {F f : Fr} {g b : Bool} {d : Nat} (k : Nat) (ha : Acts ol act F) (J : WQ P n ol rest C KQ ((d, .bool (g || b)) :: f)) (hg : g = false) (hp : pickH n ol act o false F = some (d, g, b)) (hs : subB f k F = some f) : WQ P n ol (o :: rest) C KQ F := by
 obtain ⟨h1, h2, h3, h4⟩ := pickH_ok (P := P) ha hp
 refine WQ.val h1 h2 h3 (fun w _ => h4 hg w) (WQ.subS (subB_ok hs).head ?_)
 rwa [hg, Bool.false_or] at J
theorem WQ.pO {l rest : List Oper} {o : Oper} {f F : Fr} {g b : Bool} {j d : Nat} {S : Prop} (htb : tb.Ok P) (e : Nat) (ha : Acts ol act f) (h : List Nat) (hh : grpH n ol act e l f = some (false, g, j, d, rest)) (hr : runs tb n ol L ((j, false) :: act) e l f h True = some (o :: rest, F, S)) (hp : pickH n ol act o false F = some (d, g, b)) (hs : subB f e F = some f) (hS : g = false → S)
  (k : WQ P n ol rest (fun w' => St w0 T L w') KQ ((d, .bool (g || b)) :: f)) : WQ P n ol l (fun w' => St w0 T L w') KQ f := by
 obtain ⟨h1, h2⟩ := grpH_ok (P := P) (K := fun _ _ => True) (KQ := KQ) (C := fun w' => St w0 T L w') ha hh
 cases hg : g with
 | false =>
  subst hg
  obtain ⟨p1, p2, p3, p4⟩ := pickH_ok (P := P) (ha.subS (subB_ok hs)) hp
  refine WQ.runA htb e (ha.cons h1 rfl) h hr (hS rfl) (WQ.val p1 p2 p3 (fun w _ => p4 rfl w) (WQ.subS (subB_ok hs).head ?_))
  rwa [Bool.false_or] at k
 | true => subst hg; exact (h2 rfl).2 k
end
section
variable {β : Type}
def copyK : List Value → (List Value → Option β) → Option β
 | [], k => k []
 | v :: r, k => copyK r fun q => k (v :: q)
def setK : List Value → Nat → Value → (List Value → Option β) → Option β
 | [], _, _, _ => none
 | _ :: r, 0, v, k => k (v :: r)
 | x :: r, i + 1, v, k => setK r i v fun q => k (x :: q)
def overK : List Value → List Value → (List Value → Option β) → Option β
 | r, [], k => k r
 | [], _ :: _, _ => none
 | _ :: r, v :: vs, k => overK r vs fun q => k (v :: q)
def repK : List Value → Nat → List Value → (List Value → Option β) → Option β
 | r, 0, vs, k => overK r vs k
 | [], _ + 1, _, _ => none
 | x :: r, i + 1, vs, k => repK r i vs fun q => k (x :: q)
def setLK : Hp → Nat → Obj → (Hp → Option β) → Option β
 | [], _, _, _ => none
 | (b, _) :: r, 0, o, k => k ((b, o) :: r)
 | p :: r, i + 1, o, k => setLK r i o fun q => k (p :: q)
theorem copyK_some {x : β} : ∀ {l : List Value} {k : List Value → Option β}, copyK l k = some x → k l = some x
 | [], _, h => h
 | v :: r, k, h => copyK_some (l := r) (k := fun q => k (v :: q)) h
theorem setK_some {x : β} : ∀ {l : List Value} {i : Nat} {v : Value} {k : List Value → Option β}, setK l i v k = some x → k (l.set i v) = some x ∧ i < l.length
 | [], _, _, _, h => by cases h
 | _ :: r, 0, v, k, h => ⟨h, by simp⟩
 | y :: r, i + 1, v, k, h => by
  have := setK_some (l := r) (i := i) (k := fun q => k (y :: q)) h
  exact ⟨this.1, by simpa using this.2⟩
theorem overK_some {x : β} : ∀ {l vs : List Value} {k : List Value → Option β}, overK l vs k = some x → k (vs ++ l.drop vs.length) = some x ∧ vs.length ≤ l.length
 | l, [], k, h => by
  have h' : k l = some x := by cases l <;> exact h
  exact ⟨by simpa using h', Nat.zero_le _⟩
 | [], _ :: _, _, h => by cases h
 | _ :: r, v :: vs, k, h => by
  have := overK_some (l := r) (vs := vs) (k := fun q => k (v :: q)) h
  exact ⟨by simpa using this.1, by simpa using this.2⟩
theorem repK_some {x : β} : ∀ {l vs : List Value} {i : Nat} {k : List Value → Option β}, repK l i vs k = some x → k (l.take i ++ vs ++ l.drop (i + vs.length)) = some x ∧ i + vs.length ≤ l.length
 | l, vs, 0, k, h => by
  have h' : overK l vs k = some x := by cases l <;> exact h
  have := overK_some h'
  exact ⟨by simpa using this.1, by simpa using this.2⟩
 | [], _, _ + 1, _, h => by cases h
 | y :: r, vs, i + 1, k, h => by
  have := repK_some (l := r) (vs := vs) (i := i) (k := fun q => k (y :: q)) h
  refine ⟨?_, by have := this.2; simp only [List.length_cons]; omega⟩
  have e : i + 1 + vs.length = (i + vs.length) + 1 := by omega
  rw [e, List.take_succ_cons, List.drop_succ_cons]
  exact this.1
theorem setLK_some {x : β} : ∀ {l : Hp} {i : Nat} {o : Obj} {k : Hp → Option β}, setLK l i o k = some x → k (setL l i o) = some x
 | [], _, _, _, h => by cases h
 | (b, _) :: r, 0, o, k, h => h
 | p :: r, i + 1, o, k, h => setLK_some (l := r) (i := i) (k := fun q => k (p :: q)) h
end
def oneB (v : Value) : Bool := v.oneCell'
def stC (tb : TT) (o : Oper) (f : Fr) (L : Hp) (i : Nat) : Option (Hp × Prop) :=
 match o.guard, o.dst, o.op with
 | none, none, .store t x y => (match tb.get t, ev f x, ev f y, nthL L i with
  | some ⟨_, sz, ag⟩, some (.pointer (some ⟨b, off, none⟩)), some v, some (b', .cells cs e (lo, hi)) => bif Nat.ble hi lo then (match ag, v with
   | true, .agg vs => bif vs.toList.all oneB && Nat.beq vs.toList.length sz then repK cs.toList off vs.toList (fun cl => setLK L i (.cells cl.toArray e (lo, hi)) fun L' => some (L', b' = b)) else none
   | false, v => bif oneB v && Nat.beq sz 1 then setK cs.toList off v (fun cl => setLK L i (.cells cl.toArray e (lo, hi)) fun L' => some (L', b' = b)) else none
   | _, _ => none) else none
  | _, _, _, _ => none)
 | _, _, _ => none
section
variable {P : Program} {tb : TT} {w0 w : World} {T : List Nat} {L : Hp} {n : Nat} {ol rest : List Oper} {K : Fr → World → Prop} {f : Fr} {o : Oper}
theorem WL.st (htb : tb.Ok P) (hst : St w0 T L w) (i : Nat) {L' : Hp} {S : Prop} (h : stC tb o f L i = some (L', S)) (hS : S) (k : ∀ w', St w0 T L' w' → WL P n ol rest K f w') : WL P n ol (o :: rest) K f w := by
 unfold stC at h
 split at h
 ·rename_i t x y hg hd ho
  split at h
  ·rename_i sz ag b off v b' cs e lo hi ht hx hy hL
   obtain ⟨-, hz, hag⟩ := TT.get_ok htb ht
   cases hle : Nat.ble hi lo with
   | false => rw [hle] at h; cases h
   | true =>
    rw [hle] at h
    dsimp only [cond_true] at h
    have hle' := Nat.le_of_ble_eq_true hle
    split at h
    ·rename_i vs
     cases hc : (vs.toList.all oneB && Nat.beq vs.toList.length sz) with
     | false => rw [hc] at h; cases h
     | true =>
      rw [hc] at h
      dsimp only [cond_true] at h
      simp only [Bool.and_eq_true] at hc
      obtain ⟨h1, h2⟩ := repK_some h
      have h3 := setLK_some h1
      simp only [Option.some.injEq, Prod.mk.injEq] at h3
      obtain ⟨rfl, rfl⟩ := h3
      obtain rfl : b' = b := hS
      have hsz := Nat.eq_of_beq_eq_true hc.2
      have h4 : off + sz ≤ cs.toList.length := by rw [← hsz]; exact h2
      refine WL.storeA (cl := cs.toList) (vs := vs.toList) hst i hz ho (want_none hg) hd hx hy rfl (by simpa using hL) hc.1 hsz h4 (.inl hle') fun w' hw' => k w' ?_
      rw [hsz] at h1 h2
      simpa [hsz] using hw'
    ·cases hc : (oneB v && Nat.beq sz 1) with
     | false => rw [hc] at h; cases h
     | true =>
      rw [hc] at h
      dsimp only [cond_true] at h
      simp only [Bool.and_eq_true] at hc
      obtain ⟨h1, h2⟩ := setK_some h
      have h3 := setLK_some h1
      simp only [Option.some.injEq, Prod.mk.injEq] at h3
      obtain ⟨rfl, rfl⟩ := h3
      obtain rfl : b' = b := hS
      have hsz := Nat.eq_of_beq_eq_true hc.2
      subst hsz
      exact WL.storeI (cl := cs.toList) hst i hz ho (want_none hg) hd hx hy (by simpa using hL) hc.1 h2 (by omega) fun w' hw' => k w' hw'
    ·cases h
  ·cases h
 ·cases h
def cellsK (v : Value) : Option (List Value) :=
 match v with
 | .agg cs => copyK cs.toList some
 | v => some [v]
theorem cellsK_ok {v : Value} {cl : List Value} (h : cellsK v = some cl) : cellsOf v = cl := by
 cases v with
 | agg cs => exact Option.some.inj (copyK_some h)
 | _ => exact Option.some.inj h
def bxC (n : Nat) (o : Oper) (f : Fr) : Option (Nat × TypeId × List Value) :=
 match o.guard, o.dst, o.op with
 | none, some d, .box t x => (match ev f x with
  | some v => bif Nat.blt d n then (match cellsK v with
   | some cl => some (d, t, cl)
   | none => none) else none
  | none => none)
 | _, _, _ => none
theorem WL.bx (hst : St w0 T L w) {d : Nat} {t : TypeId} {cl : List Value} (h : bxC n o f = some (d, t, cl)) (k : ∀ b w', St w0 T ((b, .cells cl.toArray t (0, 0)) :: L) w' → WL P n ol rest K ((d, .pointer (some ⟨b, 0, none⟩)) :: f) w') : WL P n ol (o :: rest) K f w := by
 unfold bxC at h
 split at h
 ·rename_i d' t' x hg hd ho
  split at h
  ·rename_i v hx
   cases hn : Nat.blt d' n with
   | false => rw [hn] at h; cases h
   | true =>
    rw [hn] at h
    dsimp only [cond_true] at h
    split at h
    ·rename_i cl' hcl
     simp only [Option.some.injEq, Prod.mk.injEq] at h
     obtain ⟨rfl, rfl, rfl⟩ := h
     exact WL.box hst ho (want_none hg) hd hn hx (cellsK_ok hcl) k
    ·cases h
  ·cases h
 ·cases h
def alC (n : Nat) (o : Oper) : Option (Nat × TypeId) :=
 match o.guard, o.dst, o.op with
 | none, some d, .alloc t => bif Nat.blt d n then some (d, t) else none
 | _, _, _ => none
theorem WL.al (hst : St w0 T L w) {d : Nat} {t : TypeId} {z : Value} {cl : List Value} (hz : ∀ w, (zeroValue t).run P w = .ok z w) (h : alC n o = some (d, t)) (hc : cellsK z = some cl) (k : ∀ b w', St w0 T ((b, .cells cl.toArray t (0, 0)) :: L) w' → WL P n ol rest K ((d, .pointer (some ⟨b, 0, none⟩)) :: f) w') : WL P n ol (o :: rest) K f w := by
 unfold alC at h
 split at h
 ·rename_i d' t' hg hd ho
  cases hn : Nat.blt d' n with
  | false => rw [hn] at h; cases h
  | true =>
   rw [hn] at h
   simp only [cond_true, Option.some.injEq, Prod.mk.injEq] at h
   obtain ⟨rfl, rfl⟩ := h
   exact WL.alloc hst hz ho (want_none hg) hd hn (cellsK_ok hc) k
 ·cases h
end
def dtK (cs : List Value) (off sz : Nat) : Option (List Value) := dropK cs off fun l => takeK l sz some
theorem dtK_ok {cs vs : List Value} {off sz : Nat} (h : dtK cs off sz = some vs) : (cs.drop off).take sz = vs ∧ vs.length = sz := by
 obtain ⟨h1, h2⟩ := dropK_some h
 obtain ⟨h3, h4⟩ := takeK_some h1
 have e := Option.some.inj h3
 exact ⟨e, by rw [← e, List.length_take]; exact Nat.min_eq_left h4⟩
theorem resV.cellA {P : Program} {w0 w : World} {T : List Nat} {L : Hp} {tb : TT} {f : Fr} {a b sz : Nat} {t : TypeId} {k : TK} {cl vs : List Value} {e : TypeId} {fz : Nat × Nat} (htb : tb.Ok P) (hst : St w0 T L w) (i : Nat) (hl : lk f a = some (.pointer (some ⟨b, 0, none⟩))) (hi : nthL L i = some (b, .cells cl.toArray e fz)) (ht : tb.get t = some ⟨k, sz, true⟩) (hc : dtK cl 0 sz = some vs) : resV P f w (.cell a t) (.agg vs.toArray) := by
 obtain ⟨-, hz, hag⟩ := TT.get_ok htb ht
 obtain ⟨h1, h2⟩ := dtK_ok hc
 exact resV.cell hl (run_loadVarA hag hz (cells_of_heap (hst.own _ (nthL_mem hi)).1 h1 h2))
section
variable {P : Program} {tb : TT} {w0 w : World} {T : List Nat} {L : Hp} {n : Nat} {ol : List Oper} {act : List (Nat × Bool)} {K : Fr → World → Prop} {KQ : Fr → Prop} {C : World → Prop}
theorem WL.mono {l : List Oper} {K' : Fr → World → Prop} {f : Fr} (h : WL P n ol l K f w) (hk : ∀ f w, K f w → K' f w) : WL P n ol l K' f w := fun Q a ha hq => h Q a ha fun a' f' w' hg hh => hq a' f' w' hg (hk _ _ hh)
theorem WQ.mono {l : List Oper} {KQ' : Fr → Prop} {f : Fr} (h : WQ P n ol l C KQ f) (hk : ∀ f, KQ f → KQ' f) : WQ P n ol l C KQ' f := fun a ha => by
 refine (?_ : ∀ (l : List Oper) (a : Act), wpQuiet P _ C (fun a' => ∃ f', Good a' n f' ∧ KQ f') l a → wpQuiet P _ C (fun a' => ∃ f', Good a' n f' ∧ KQ' f') l a) l a (h a ha)
 intro l
 induction l with
 | nil =>
  rintro a ⟨f', hg, hh⟩
  exact ⟨f', hg, hk _ hh⟩
 | cons o r ih =>
  intro a ha
  unfold wpQuiet at ha ⊢
  split
  ·rename_i hw
   rw [if_pos hw] at ha
   exact Oper.quiet_mono ih ha
  ·rename_i hw
   rw [if_neg hw] at ha
   exact ih _ ha
theorem WC.sr {id : Nat} {l : List Oper} {y : Code} {Q : Kont} {f : Fr} (h : WL P n l l (fun f w => WC P n y Q f w) f w) : WC P n (.seq (.region id l.toArray false) y) Q f w :=
 WC.seq fun K hK => WC.region (h.mono fun f w hh => hK f w hh)
theorem WC.sq {id : Nat} {l : List Oper} {y : Code} {Q : Kont} {f : Fr} (hst : St w0 T L w) (hm : P.follows .mixedOrders = true) (hl : Region.lexB .any l.toArray = true) (h : WQ P n l l (fun w' => St w0 T L w') (fun f' => ∀ w', St w0 T L w' → WC P n y Q f' w') f) : WC P n (.seq (.region id l.toArray true) y) Q f w :=
 WC.seq fun K hK => WC.regionQ (fun w' => St w0 T L w') hm hl hst.drew (h.mono fun f' hh w' hw => hK f' w' (hh w' hw))
theorem WC.rr {id : Nat} {l : List Oper} {y : Code} {Q : Kont} {f f' : Fr} {S : Prop} (htb : tb.Ok P) (hst : St w0 T L w) (h : List Nat) (hr : runs tb n l L [] l.length l f h True = some ([], f', S)) (hS : S) (k : WC P n y Q f' w) : WC P n (.seq (.region id l.toArray false) y) Q f w :=
 WC.sr (WL.run htb l.length hst h hr hS (WL.nil k))
theorem WC.rq {id : Nat} {l : List Oper} {y : Code} {Q : Kont} {f f' : Fr} {S : Prop} (htb : tb.Ok P) (hst : St w0 T L w) (hm : P.follows .mixedOrders = true) (hl : Region.lexB .any l.toArray = true) (h : List Nat) (hr : runs tb n l L [] l.length l f h True = some ([], f', S)) (hS : S) (k : ∀ w', St w0 T L w' → WC P n y Q f' w') : WC P n (.seq (.region id l.toArray true) y) Q f w :=
 WC.sq hst hm hl (WQ.run htb l.length h hr hS (WQ.nil k))
theorem WC.cD {c : Operand} {x y : Code} {p : Prop} [Decidable p] {Q : Kont} {f : Fr} (hc : ev f c = some (.bool (decide p))) (hx : p → WC P n x Q f w) (hy : ¬ p → WC P n y Q f w) : WC P n (.cond c x y) Q f w :=
 WC.cond hc (fun h => hx (of_decide_eq_true h)) (fun h => hy (of_decide_eq_false h))
theorem WC.cN {c : Operand} {x y : Code} {p : Prop} [Decidable p] {Q : Kont} {f : Fr} (hc : ev f c = some (.bool (!decide p))) (hx : ¬ p → WC P n x Q f w) (hy : p → WC P n y Q f w) : WC P n (.cond c x y) Q f w :=
 WC.cond hc (fun h => hx (of_decide_eq_false (by simpa using h))) (fun h => hy (of_decide_eq_true (by simpa using h)))
theorem u8_in (b : UInt8) : In64 (b.toNat : Int) := by have := b.toNat_lt; constructor <;> omega
theorem bf : (∀ (p : Prop) [Decidable p], (decide p = true) = p) ∧ (∀ (p : Prop) [Decidable p], (decide p = false) = ¬ p) ∧ (∀ b : Bool, ((!b) = true) = (b = false)) ∧ (∀ b : Bool, ((!b) = false) = (b = true)) ∧ (∀ a b : Bool, ((a && b) = true) = (a = true ∧ b = true)) ∧ (∀ a b : Bool, ((a || b) = false) = (a = false ∧ b = false)) :=
 ⟨fun _ _ => by simp, fun _ _ => by simp, fun b => by simp, fun b => by simp, fun a b => by simp, fun a b => by simp⟩
end
def OwnN {α : Type} (F : Enc α) (own : α → Hp → Prop) (e : TypeId) (v : Value) (xs : List α) (L : Hp) : Prop := ∃ L0 Lb, L = L0 ++ Lb ∧ OwnF F e v xs L0 ∧ Bag own xs Lb
section
variable {α : Type} {F : Enc α} {own : α → Hp → Prop} {e : TypeId} {v : Value} {xs ys : List α} {L L0 Lb R : Hp} {w0 w : World} {T : List Nat} {A : Option Addr} {n c : Nat}
theorem OwnN.nil (F : Enc α) (own : α → Hp → Prop) (e : TypeId) : OwnN F own e (.slice none 0 0) [] [] := ⟨[], [], rfl, OwnF.nil F e, Bag.nil⟩
theorem OwnN.nilA (F : Enc α) (own : α → Hp → Prop) (e : TypeId) (A : Option Addr) : OwnN F own e (.slice A 0 0) [] [] := ⟨[], [], rfl, OwnF.nilA F e A, Bag.nil⟩
theorem OwnN.shape (h : OwnN F own e v xs L) : ∃ A c, v = .slice A xs.length c := by
 obtain ⟨L0, Lb, rfl, h1, h2⟩ := h
 exact h1.shape
theorem OwnN.len_ (h : OwnN F own e (.slice A n c) xs L) : xs.length = n := by
 obtain ⟨L0, Lb, rfl, h1, h2⟩ := h
 exact h1.len_
theorem OwnN.cap (h : OwnN F own e (.slice A n c) xs L) : n ≤ c := by
 obtain ⟨L0, Lb, rfl, h1, h2⟩ := h
 exact h1.cap
theorem OwnN.eqOf (_ : OwnN F own e v ys L) (h : ys = xs) : ys = xs := h
theorem OwnN.ok {ok : World → α → Prop} (h : OwnN F own e (.slice A n c) xs L) (hh : ∀ p, p ∈ L → w.heap[p.1]? = some p.2) (hk : ∀ x Li, x ∈ xs → own x Li → (∀ p, p ∈ Li → w.heap[p.1]? = some p.2) → ok w x) : SlN F ok w A n xs := by
 obtain ⟨L0, Lb, rfl, h1, h2⟩ := h
 refine ⟨SlF.ofOwn h1 fun p hp => hh p (List.mem_append_left _ hp), fun x hx => ?_⟩
 obtain ⟨Li, h3, h4⟩ := h2.mem x hx
 exact hk x Li hx h3 fun p hp => hh p (List.mem_append_right _ (h4 p hp))
theorem OwnN.sl (h : OwnN F own e (.slice A n c) xs L) (hh : ∀ p, p ∈ L → w.heap[p.1]? = some p.2) : SlF F w A n xs := by
 obtain ⟨L0, Lb, rfl, h1, h2⟩ := h
 exact SlF.ofOwn h1 fun p hp => hh p (List.mem_append_left _ hp)
theorem OwnN.fold (hs : St w0 T (L0 ++ (Lb ++ R)) w) (o : OwnF F e v xs L0) (b : Bag own xs Lb) : ∃ L, St w0 T (L ++ R) w ∧ OwnN F own e v xs L :=
 ⟨L0 ++ Lb, by simpa only [List.append_assoc] using hs, L0, Lb, rfl, o, b⟩
theorem OwnN.open_ (hs : St w0 T (L ++ R) w) (h : OwnN F own e v xs L) : ∃ L0 Lb, St w0 T (L0 ++ (Lb ++ R)) w ∧ OwnF F e v xs L0 ∧ Bag own xs Lb := by
 obtain ⟨L0, Lb, rfl, o, b⟩ := h
 exact ⟨L0, Lb, by simpa only [List.append_assoc] using hs, o, b⟩
theorem Bag.out {i : Nat} (hs : St w0 T (Lb ++ R) w) (b : Bag own xs Lb) (hi : i < xs.length) : ∃ La Li Lc, St w0 T (Li ++ ((La ++ Lc) ++ R)) w ∧ own (gat F xs i) Li ∧ (∀ {w' : World} {T' : List Nat} {R' : Hp} (x' : α) (Li' : Hp), St w0 T' (Li' ++ ((La ++ Lc) ++ R')) w' → own x' Li' → ∃ Lb', St w0 T' (Lb' ++ R') w' ∧ Bag own (xs.set i x') Lb') := by
 obtain ⟨La, Li, Lc, rfl, h1, h2⟩ := Bag.nth (F := F) b hi
 refine ⟨La, Li, Lc, hs.perm ?_, h1, fun x' Li' hs' hx => ⟨_, hs'.perm ?_, h2 x' Li' hx⟩⟩
 ·simp only [List.append_assoc]
  exact (List.perm_append_comm_assoc _ _ _)
 ·simp only [List.append_assoc]
  exact (List.perm_append_comm_assoc _ _ _)
theorem Bag.replace {i : Nat} {Lr : Hp} {r : α} (hs : St w0 T (Lb ++ (Lr ++ R)) w) (b : Bag own xs Lb) (hi : i < xs.length) (hr : own r Lr) : ∃ Lb', St w0 T (Lb' ++ R) w ∧ Bag own (xs.set i r) Lb' := by
 obtain ⟨La, Li, Lc, rfl, h1, h2⟩ := Bag.nth (F := ⟨1, fun _ => [.bool true], r, fun _ => rfl, fun _ _ h => by simp at h; subst h; rfl, by decide⟩) b hi
 refine ⟨La ++ (Lr ++ Lc), St.perm (hs.drop (L' := La ++ (Lc ++ (Lr ++ R))) ?_) ?_, h2 r Lr hr⟩
 ·simp only [List.append_assoc]
  exact List.Sublist.append_left (List.sublist_append_right Li _) La
 ·simp only [List.append_assoc]
  exact List.Perm.append_left La (List.perm_append_comm_assoc _ _ _)
theorem Bag.dflts {n : Nat} {d : α} (h : own d []) : Bag own (List.replicate n d) [] := by
 induction n with
 | zero => exact rfl
 | succ n ih => exact ⟨[], [], rfl, h, ih⟩
theorem OwnN.new {n : Nat} {d : α} (hs : St w0 T (L ++ R) w) (o : OwnF F e v (List.replicate n d) L) (h : own d []) : ∃ L', St w0 T (L' ++ R) w ∧ OwnN F own e v (List.replicate n d) L' :=
 ⟨L ++ [], by simpa using hs, L, [], rfl, o, Bag.dflts h⟩
end
abbrev SlD.of {α : Type} {F : Enc α} {e : TypeId} {A : Option Addr} {n c : Nat} {xs : List α} {L : Hp} (_ : OwnF F e (.slice A n c) xs L) : SlD α := ⟨A, n, c, xs⟩
abbrev SlD.ofN {α : Type} {F : Enc α} {own : α → Hp → Prop} {e : TypeId} {A : Option Addr} {n c : Nat} {xs : List α} {L : Hp} (_ : OwnN F own e (.slice A n c) xs L) : SlD α := ⟨A, n, c, xs⟩
abbrev SlD.rd {α : Type} {F : Enc α} {w : World} {A : Option Addr} {n c : Nat} {xs : List α} (_ : SlF F w A n xs) (_ : n ≤ c) : SlD α := ⟨A, n, c, xs⟩
theorem set_at {α : Type} {ys : List α} {d r : α} {i m : Nat} (hl : ys.length = i) (hm : i < m) : (ys ++ List.replicate (m - i) d).set i r = (ys ++ [r]) ++ List.replicate (m - (i + 1)) d := by
 obtain ⟨q, hq⟩ : ∃ q, m - i = q + 1 := ⟨m - i - 1, by omega⟩
 have hq2 : m - (i + 1) = q := by omega
 rw [hq, hq2, List.replicate_succ, List.set_append_right _ _ (by omega), hl, Nat.sub_self, List.set_cons_zero, List.append_assoc]
 rfl
def tots {α : Type} (f : α → Nat) (l : List α) : Nat := l.length + (l.map f).sum
theorem le_sum : ∀ {l : List Nat} {x : Nat}, x ∈ l → x ≤ l.sum
 | [], _, h => by cases h
 | y :: r, x, h => by
  rw [List.sum_cons]
  rcases List.mem_cons.1 h with rfl | h
  ·omega
  ·have := le_sum h; omega
theorem tots_mem {α : Type} {f : α → Nat} {l : List α} {x : α} (h : x ∈ l) : f x ≤ tots f l := by
 have : f x ≤ (l.map f).sum := le_sum (List.mem_map_of_mem h)
 unfold tots; omega
theorem tots_map {α β : Type} {f : β → Nat} {g : α → β} (l : List α) : tots f (l.map g) = l.length + (l.map fun x => f (g x)).sum := by
 simp only [tots, List.length_map, List.map_map]; rfl
theorem tots_len {α : Type} (f : α → Nat) (l : List α) : l.length ≤ tots f l := Nat.le_add_right _ _
theorem sum_take {α : Type} {F : Enc α} {f : α → Nat} {l : List α} {i : Nat} (h : i < l.length) : ((l.take (i + 1)).map f).sum = ((l.take i).map f).sum + f (gat F l i) := by
 rw [List.take_add_one, gat_get (F := F) h, List.map_append, List.sum_append]; simp
theorem sum_take_le {α : Type} {f : α → Nat} (l : List α) (i : Nat) : ((l.take i).map f).sum ≤ (l.map f).sum := by
 conv => rhs; rw [← List.take_append_drop i l, List.map_append, List.sum_append]
 exact Nat.le_add_right _ _
section
variable {α : Type} {mk : Int → α → α} {c : α → Int} {F : Enc α}
def cnts (c : α → Int) : List α → Int
 | [] => 0
 | x :: r => c x + cnts c r
end
theorem Run.quoB {P : Program} {w : World} {o : Oper} {f : Fr} {t t' : TypeId} {x y : Operand} {a : UInt8} (k : Nat) (ho : o.op = .binOp .quo t x y t') (hx : ev f x = some (.int .u8 a.toNat)) (hy : ev f y = some (.int .u8 (k : Int))) (h0 : 0 < k) (h1 : k ≤ 255) : Run P o f w (.value (.int .u8 ((UInt8.ofNat (a.toNat / k)).toNat))) w := fun ρ hρ => by
 have h3 := a.toNat_lt
 have h4 : a.toNat / k ≤ a.toNat := Nat.div_le_self _ _
 have hk0 : k ≠ 0 := by omega
 have e : IntKind.u8.wrap ((a.toNat : Int).tdiv (k : Int)) = ((UInt8.ofNat (a.toNat / k)).toNat : Int) := by
  rw [UInt8.toNat_ofNat', Nat.mod_eq_of_lt (by omega), Int.tdiv_eq_ediv_of_nonneg (by omega), ← Int.natCast_ediv, wrap_u8, ub_toNat]
  generalize a.toNat / k = m at h4 ⊢
  omega
 rw [← e]
 simp [execOp, ho, hρ _ _ hx, hρ _ _ hy, eqGuard, binOp, Op.intDiv, hk0]
theorem u8_div (a : UInt8) (k : Nat) : (UInt8.ofNat (a.toNat / k)).toNat = a.toNat / k := by
 have h3 := a.toNat_lt
 have h4 : a.toNat / k ≤ a.toNat := Nat.div_le_self _ _
 rw [UInt8.toNat_ofNat', Nat.mod_eq_of_lt (by omega)]
theorem u8_mod (a : UInt8) (k : Nat) : (UInt8.ofNat (a.toNat % k)).toNat = a.toNat % k := by
 have h3 := a.toNat_lt
 have h4 : a.toNat % k ≤ a.toNat := Nat.mod_le _ _
 rw [UInt8.toNat_ofNat', Nat.mod_eq_of_lt (by omega)]
theorem gat_dat {α β : Type} {F : Enc α} {f : α → β} {xs ys : List α} {i : Nat} (h : xs.map f = ys.map f) (hi : i < xs.length) : f (gat F xs i) = f (gat F ys i) := by
 have hl := congrArg List.length h
 simp only [List.length_map] at hl
 have h1 := congrArg (fun l => l[i]?) h
 simp only [List.getElem?_map, gat_get (F := F) hi, gat_get (F := F) (show i < ys.length by omega), Option.map_some] at h1
 exact Option.some.inj h1
theorem map_take_succ {α β : Type} {F : Enc α} {f : α → β} {xs : List α} {i : Nat} (h : i < xs.length) : (xs.take (i + 1)).map f = (xs.take i).map f ++ [f (gat F xs i)] := by
 rw [List.take_add_one, gat_get (F := F) h, List.map_append]; rfl
theorem WH.strS {P : Program} {n : Nat} {ol : List Oper} {K : Fr → World → Prop} {f : Fr} {w0 w : World} {T : List Nat} {L : Hp} {S : World → Prop} {fuel : Nat} {listed : List Bool} (_hs : St w0 T L w) (hi : ∀ w', St w0 T L w' → S w')
  (h : WH P n ol (fun w' => St w0 T L w') fuel listed K f w) : WH P n ol S fuel listed K f w := fun Q a hp ha hk => by
 have key : ∀ (fuel : Nat) (listed : Array Bool) (a : Act) (w : World), wpAnyH P .any ol.toArray Q (fun w' => St w0 T L w') fuel listed a w → wpAnyH P .any ol.toArray Q S fuel listed a w := by
  intro fuel
  induction fuel with
  | zero => intro listed a w h; exact h
  | succ fuel ih => intro listed a w h; exact ⟨h.1, fun i hi' => wpOp_mono (fun a' w' h' => ⟨hi _ h'.1, ih _ _ _ h'.2⟩) (h.2 i hi')⟩
 exact key _ _ _ _ (h Q a hp ha hk)
theorem Bag.put {α : Type} {own : α → Hp → Prop} {xs : List α} {x : α} {La Lb R : Hp} {w0 w : World} {T : List Nat} (hs : St w0 T (La ++ (Lb ++ R)) w) (b : Bag own xs La) (o : own x Lb) : ∃ L, St w0 T (L ++ R) w ∧ Bag own (xs ++ [x]) L := ⟨La ++ Lb, by rw [List.append_assoc]; exact hs, b.snoc o⟩
section
variable {α : Type} {F : Enc α} {own : α → Hp → Prop} {e : TypeId} {xs : List α} {L R : Hp} {A : Option Addr} {n c k : Nat} {w0 w : World} {T : List Nat}
theorem Bag.dropK (b : Bag own xs L) : ∃ L', Bag own (xs.drop k) L' ∧ L'.Sublist L := by
 obtain ⟨La, Lb, rfl, h1, h2⟩ := Bag.split (xs := xs.take k) (ys := xs.drop k) (L := L) (by rwa [List.take_append_drop])
 exact ⟨Lb, h2, List.sublist_append_right _ _⟩
theorem OwnF.spare (h : OwnF F e (.slice A n c) xs L) (hq : n < c) : ∃ (g : Nat) (pre cl : List Value) (lo hi : Nat), A = some ⟨g, pre.length, none⟩ ∧ L = [(g, .cells (pre ++ cl).toArray e (lo, hi))] ∧ (hi ≤ lo ∨ (pre ++ cl).length ≤ lo) ∧ cl.length = c * F.sz ∧
  ∀ cl' : List Value, cl'.length = cl.length → cl'.take (n * F.sz) = cl.take (n * F.sz) → OwnF F e (.slice A n c) xs [(g, .cells (pre ++ cl').toArray e (lo, hi))] := by
 have hl := h.len_
 rcases h.2 with ⟨⟨A', hv⟩, h0', rfl⟩ | ⟨g, cap, o, pre, cl, ⟨lo, hi'⟩, hv, rfl, hn, hc, hcl, ht, hfz, rfl⟩
 ·cases hv; omega
 ·cases hv
  refine ⟨g, pre, cl, lo, hi', rfl, rfl, hfz, hcl, fun cl' h1 h2 => ⟨h.1, .inr ⟨g, c, pre.length, pre, cl', (lo, hi'), rfl, rfl, hn, hc, by rw [h1, hcl], ?_, by rw [List.length_append, h1, ← List.length_append]; exact hfz, rfl⟩⟩⟩
  rw [hl, h2, ← hl, ht]
end
section
variable {P : Program} {ops : Array Oper} {Q : Exit → Act → World → Prop} {md : Region.Mode} {S S1 : World → Prop} {k : Nat}
def wpAnyG (P : Program) (md : Region.Mode) (ops : Array Oper) (Q : Exit → Act → World → Prop) (k : Nat) (S1 S : World → Prop) : Nat → Array Bool → Act → World → Prop
 | 0, listed, a, w => Region.ready md ops listed = [] ∧ Q .normal a w
 | fuel + 1, listed, a, w =>
  (Region.ready md ops listed = [] → Q .normal a w) ∧
  ∀ i ∈ Region.ready md ops listed, (i = k → wpOp P ops Q i (fun a' w' => S w' ∧ wpAnyH P md ops Q S fuel (listed.setIfInBounds i true) a' w') a w) ∧
   (i ≠ k → wpOp P ops Q i (fun a' w' => S1 w' ∧ wpAnyG P md ops Q k S1 S fuel (listed.setIfInBounds i true) a' w') a w)
theorem wpAnyG_first {i : Nat} {oi ok : Oper} {v : Value} (hi : ops[i]? = some oi) (hok : ops[k]? = some ok) (hdep : ∃ e ∈ ok.after, Region.binds md e = true ∧ e.on = i) (hik : i ≠ k) (hsel : ∀ (j : Nat) (o : Oper) cs b, ops[j]? = some o → o.op ≠ .select cs b)
  (hQ : ∀ c a w, Q (.panic c) (a.put oi.dst v) w → Q (.panic c) a w) :
  ∀ (fuel : Nat) (listed : Array Bool) (a : Act) (w : World),
   (∀ j oj, ops[j]? = some oj → j ≠ i → listed.getD j true = false → (∀ e ∈ oj.after, Region.binds md e = true → e.on ≠ i) → oi.apart ops oj = true) →
   i ∈ Region.ready md ops listed → YieldsIf P ops S1 oi v a → S1 w →
   wpAnyG P md ops Q k S1 S fuel (listed.setIfInBounds i true) (a.put oi.dst v) w → wpAnyG P md ops Q k S1 S (fuel + 1) listed a w := by
 intro fuel
 have hnotk : ∀ (listed : Array Bool), i ∈ Region.ready md ops listed → k ∉ Region.ready md ops listed := by
  intro listed hr hk
  obtain ⟨e, he, hb, hon⟩ := hdep
  obtain ⟨_, o', ho', hall⟩ := mem_ready.1 hk
  rw [hok] at ho'
  cases ho'
  have h1 := hall e he hb
  have h0 := (mem_ready.1 hr).1
  rw [hon] at h1
  rcases Nat.lt_or_ge i listed.size with h' | h'
  ·simp [h'] at h0 h1; rw [h0] at h1; cases h1
  ·simp [Array.getElem?_eq_none h'] at h1
 induction fuel with
 | zero =>
  intro listed a w _ hr hy hS H
  refine ⟨fun h => (by rw [h] at hr; cases hr), fun j hj => ⟨fun e => absurd (e ▸ hj) (hnotk _ hr), fun _ => ?_⟩⟩
  by_cases hji : j = i
  ·subst hji; exact hy.wpOp hi hS ⟨hS, H⟩
  ·have := ready_mono hj hji
   rw [H.1] at this
   cases this
 | succ fuel ih =>
  intro listed a w hfree hr hy hS H
  refine ⟨fun h => (by rw [h] at hr; cases hr), fun j hj => ⟨fun e => absurd (e ▸ hj) (hnotk _ hr), fun hjk0 => ?_⟩⟩
  by_cases hji : j = i
  ·subst hji; exact hy.wpOp hi hS ⟨hS, H⟩
  ·have h1 := (H.2 j (ready_mono hj hji)).2 hjk0
   obtain ⟨hjun, oj, hoj, hall⟩ := mem_ready.1 hj
   have hnot : ∀ e ∈ oj.after, Region.binds md e = true → e.on ≠ i := fun e he hb heq => by
    have h1 := hall e he hb
    have h0 := (mem_ready.1 hr).1
    rw [heq] at h1
    rcases Nat.lt_or_ge i listed.size with h' | h'
    ·simp [h'] at h0 h1; rw [h0] at h1; cases h1
    ·simp [Array.getElem?_eq_none h'] at h1
   have h2 := wpOp_putIf hoj (hfree j oj hoj hji hjun hnot) (fun cs b => hsel i oi cs b hi) (fun cs b => hsel j oj cs b hoj) hQ hy h1
   have hfree' : ∀ q oq, ops[q]? = some oq → q ≠ i → (listed.setIfInBounds j true).getD q true = false →
     (∀ e ∈ oq.after, Region.binds md e = true → e.on ≠ i) → oi.apart ops oq = true := fun q oq hq hqi hun hno => by
    refine hfree q oq hq hqi ?_ hno
    by_cases hjq : j = q
    ·subst hjq; exact hjun
    ·rw [getD_set_ne true hjq] at hun; exact hun
   refine wpOp_mono (fun a' w' h3 => ⟨h3.2.1, ih (listed.setIfInBounds j true) a' w' hfree' (ready_mono hr (Ne.symm hji)) h3.1 h3.2.1 ?_⟩) h2
   rw [Array.setIfInBounds_comm _ _ hji]
   exact h3.2.2
theorem wpAnyG_firstB {i : Nat} {oi : Oper} {v : Value} (hi : ops[i]? = some oi) (hsel : ∀ (j : Nat) (o : Oper) cs b, ops[j]? = some o → o.op ≠ .select cs b)
  (hQ : ∀ c a w, Q (.panic c) (a.put oi.dst v) w → Q (.panic c) a w) (hik : i ≠ k) :
  ∀ (fuel : Nat) (listed : Array Bool) (a : Act) (w : World),
   (∀ j oj, ops[j]? = some oj → j ≠ i → listed.getD j true = false → (∀ e ∈ oj.after, Region.binds md e = true → e.on ≠ i) → oi.apart ops oj = true) →
   i ∈ Region.ready md ops listed → YieldsIf P ops (fun _ => True) oi v a → S1 w →
   wpAnyG P md ops Q k S1 S fuel (listed.setIfInBounds i true) (a.put oi.dst v) w → wpAnyG P md ops Q k S1 S (fuel + 1) listed a w := by
 intro fuel
 induction fuel with
 | zero =>
  intro listed a w _ hr hy hS H
  refine ⟨fun h => (by rw [h] at hr; cases hr), fun j hj => ⟨fun e => ?_, fun _ => ?_⟩⟩
  ·have := ready_mono hj (e ▸ Ne.symm hik)
   rw [H.1] at this
   cases this
  ·by_cases hji : j = i
   ·subst hji; exact hy.wpOp hi trivial ⟨hS, H⟩
   ·have := ready_mono hj hji
    rw [H.1] at this
    cases this
 | succ fuel ih =>
  intro listed a w hfree hr hy hS H
  refine ⟨fun h => (by rw [h] at hr; cases hr), fun j hj => ?_⟩
  by_cases hji : j = i
  ·subst hji
   exact ⟨fun e => absurd e hik, fun _ => hy.wpOp hi trivial ⟨hS, H⟩⟩
  ·have h1 := H.2 j (ready_mono hj hji)
   obtain ⟨hjun, oj, hoj, hall⟩ := mem_ready.1 hj
   have hnot : ∀ e ∈ oj.after, Region.binds md e = true → e.on ≠ i := fun e he hb heq => by
    have h1 := hall e he hb
    have h0 := (mem_ready.1 hr).1
    rw [heq] at h1
    rcases Nat.lt_or_ge i listed.size with h' | h'
    ·simp [h'] at h0 h1; rw [h0] at h1; cases h1
    ·simp [Array.getElem?_eq_none h'] at h1
   have hfree' : ∀ q oq, ops[q]? = some oq → q ≠ i → (listed.setIfInBounds j true).getD q true = false →
     (∀ e ∈ oq.after, Region.binds md e = true → e.on ≠ i) → oi.apart ops oq = true := fun q oq hq hqi hun hno => by
    refine hfree q oq hq hqi ?_ hno
    by_cases hjq : j = q
    ·subst hjq; exact hjun
    ·rw [getD_set_ne true hjq] at hun; exact hun
   refine ⟨fun e => ?_, fun e => ?_⟩
   ·have h2 := wpOp_putIf hoj (hfree j oj hoj hji hjun hnot) (fun cs b => hsel i oi cs b hi) (fun cs b => hsel j oj cs b hoj) hQ hy (h1.1 e)
    refine wpOp_mono (fun a' w' h3 => ⟨h3.2.1, wpAnyH_first hi hsel hQ fuel (listed.setIfInBounds j true) a' w' hfree' (ready_mono hr (Ne.symm hji)) ?_ h3.2.1 ?_⟩) h2
    ·exact h3.1.imp (fun q => ⟨q.1, fun w _ => q.2 w trivial⟩) id
    ·rw [Array.setIfInBounds_comm _ _ hji]
     exact h3.2.2
   ·have h2 := wpOp_putIf hoj (hfree j oj hoj hji hjun hnot) (fun cs b => hsel i oi cs b hi) (fun cs b => hsel j oj cs b hoj) hQ hy (h1.2 e)
    refine wpOp_mono (fun a' w' h3 => ⟨h3.2.1, ih (listed.setIfInBounds j true) a' w' hfree' (ready_mono hr (Ne.symm hji)) h3.1 h3.2.1 ?_⟩) h2
    rw [Array.setIfInBounds_comm _ _ hji]
    exact h3.2.2
end
def WG (P : Program) (n : Nat) (ol : List Oper) (k : Nat) (S1 S : World → Prop) (fuel : Nat) (listed : List Bool) (K : Fr → World → Prop) (f : Fr) (w : World) : Prop :=
 ∀ (Q : Exit → Act → World → Prop) (a : Act), (∀ c a w, ¬ Q (.panic c) a w) → Good a n f → (∀ a' f' w', Good a' n f' → K f' w' → Q .normal a' w') → wpAnyG P .any ol.toArray Q k S1 S fuel listed.toArray a w
def waits (ol : List Oper) (k i : Nat) : Bool := match nthO ol k with
 | some o => o.after.toList.any (fun e => Region.binds .any e && Nat.beq e.on i) && !Nat.beq i k
 | none => false
section
variable {P : Program} {n : Nat} {ol : List Oper} {o : Oper} {K : Fr → World → Prop} {f : Fr} {w : World} {d : Nat} {v : Value} {S S1 : World → Prop} {fuel k : Nat} {listed : List Bool}
theorem waits_dep {i : Nat} (h : waits ol k i = true) : ∃ ok, ol.toArray[k]? = some ok ∧ (∃ e ∈ ok.after, Region.binds .any e = true ∧ e.on = i) ∧ i ≠ k := by
 unfold waits at h
 split at h
 ·rename_i ok ho
  simp only [Bool.and_eq_true, List.any_eq_true, Bool.not_eq_true'] at h
  obtain ⟨⟨e, he, h1, h2⟩, h3⟩ := h
  refine ⟨ok, by rw [List.getElem?_toArray, ← nthO_eq]; exact ho, ⟨e, Array.mem_toList_iff.1 he, h1, Nat.eq_of_beq_eq_true h2⟩, ?_⟩
  rintro rfl
  rw [Nat.beq_refl] at h3; cases h3
 ·cases h
theorem WG.take (i : Nat) (hi : nthO ol i = some o) (hb : canTake ol listed i = true) (hkw : waits ol k i = true) (hw : want ol o f = some true) (hd : o.dst = some d) (hn : Nat.blt d n = true) (hS : S1 w) (hy : ∀ w, S1 w → Run P o f w (.value v) w)
  (kk : WG P n ol k S1 S fuel (setB listed i) K ((d, v) :: f) w) : WG P n ol k S1 S (fuel + 1) listed K f w := fun Q a hp ha hk => by
 simp only [canTake, Bool.and_eq_true] at hb
 have hi' : ol.toArray[i]? = some o := by rw [List.getElem?_toArray, ← nthO_eq]; exact hi
 obtain ⟨ok, h1, h2, h3⟩ := waits_dep hkw
 refine wpAnyG_first (v := v) hi' h1 h2 h3 (Region.noSelect_spec hb.1.1) (fun c a w hh => absurd hh (hp _ _ _)) fuel _ _ _ (Region.free_spec hi' hb.1.2) (by simpa using hb.2) (.inl ⟨want_eq ha hw, fun w hSw => hy w hSw a.eval fun x u hx => ha.ev hx⟩) hS ?_
 have := kk Q _ hp (ha.put hn v) hk
 rw [setB_eq] at this
 rw [hd]
 simpa using this
theorem WG.takeSkip (i : Nat) (hi : nthO ol i = some o) (hb : canTake ol listed i = true) (hkw : waits ol k i = true) (hw : want ol o f = some false) (hd : o.dst = some d) (hn : Nat.blt d n = true) (hS : S1 w)
  (kk : WG P n ol k S1 S fuel (setB listed i) K ((d, undef) :: f) w) : WG P n ol k S1 S (fuel + 1) listed K f w := fun Q a hp ha hk => by
 simp only [canTake, Bool.and_eq_true] at hb
 have hi' : ol.toArray[i]? = some o := by rw [List.getElem?_toArray, ← nthO_eq]; exact hi
 obtain ⟨ok, h1, h2, h3⟩ := waits_dep hkw
 refine wpAnyG_first (v := undef) hi' h1 h2 h3 (Region.noSelect_spec hb.1.1) (fun c a w hh => absurd hh (hp _ _ _)) fuel _ _ _ (Region.free_spec hi' hb.1.2) (by simpa using hb.2) (.inr ⟨want_eq ha hw, rfl⟩) hS ?_
 have := kk Q _ hp (ha.put hn undef) hk
 rw [setB_eq] at this
 rw [hd]
 simpa using this
theorem WG.takeB (i : Nat) (hi : nthO ol i = some o) (hb : canTake ol listed i = true) (hik : Nat.beq i k = false) (hw : want ol o f = some true) (hd : o.dst = some d) (hn : Nat.blt d n = true) (hS : S1 w) (hy : ∀ w, Run P o f w (.value v) w)
  (kk : WG P n ol k S1 S fuel (setB listed i) K ((d, v) :: f) w) : WG P n ol k S1 S (fuel + 1) listed K f w := fun Q a hp ha hk => by
 simp only [canTake, Bool.and_eq_true] at hb
 have hi' : ol.toArray[i]? = some o := by rw [List.getElem?_toArray, ← nthO_eq]; exact hi
 refine wpAnyG_firstB (v := v) hi' (Region.noSelect_spec hb.1.1) (fun c a w hh => absurd hh (hp _ _ _)) (by rintro rfl; rw [Nat.beq_refl] at hik; cases hik) fuel _ _ _ (Region.free_spec hi' hb.1.2) (by simpa using hb.2) (.inl ⟨want_eq ha hw, fun w _ => hy w a.eval fun x u hx => ha.ev hx⟩) hS ?_
 have := kk Q _ hp (ha.put hn v) hk
 rw [setB_eq] at this
 rw [hd]
 simpa using this
def WGs (P : Program) (n : Nat) (ol : List Oper) (k : Nat) (S1 S : World → Prop) (fuel : Nat) (listed : List Bool) (K : Fr → World → Prop) (f : Fr) (w : World) (rs : List Nat) : Prop :=
 ∀ i, i ∈ rs → ∃ o, nthO ol i = some o ∧ ((i = k ∧ WL P n ol [o] (fun f' w' => S w' ∧ WH P n ol S fuel (setB listed i) K f' w') f w) ∨ (i ≠ k ∧ WL P n ol [o] (fun f' w' => S1 w' ∧ WG P n ol k S1 S fuel (setB listed i) K f' w') f w))
theorem WGs.nil : WGs P n ol k S1 S fuel listed K f w [] := fun _ h => by cases h
theorem WGs.cons {i : Nat} {rs : List Nat} (hi : nthO ol i = some o) (hne : Nat.beq i k = false) (h : WL P n ol [o] (fun f' w' => S1 w' ∧ WG P n ol k S1 S fuel (setB listed i) K f' w') f w) (hr : WGs P n ol k S1 S fuel listed K f w rs) : WGs P n ol k S1 S fuel listed K f w (i :: rs) := fun j hj => by
 rcases List.mem_cons.1 hj with rfl | hj
 ·exact ⟨o, hi, .inr ⟨(by rintro rfl; rw [Nat.beq_refl] at hne; cases hne), h⟩⟩
 ·exact hr j hj
theorem wpOp_one {K1 : Act → World → Prop} {Q : Exit → Act → World → Prop} {a : Act} {i : Nat} (hi' : ol.toArray[i]? = some o) (h1 : wpList P ol.toArray (Exit.then K1 Q) [o] a w) : wpOp P ol.toArray Q i K1 a w := by
 unfold wpOp
 rw [hi']
 show if Region.wanted o (yielded ol.toArray a.tmps) = true then _ else _
 unfold wpList at h1
 split
 ·rename_i hwd
  rw [if_pos hwd] at h1
  exact wp_then h1
 ·rename_i hwd
  rw [if_neg hwd] at h1
  exact h1
theorem WG.all (rs : List Nat) (hr : Region.ready .any ol.toArray listed.toArray = rs) (hne : rs.isEmpty = false) (h : WGs P n ol k S1 S fuel listed K f w rs) : WG P n ol k S1 S (fuel + 1) listed K f w := fun Q a hp ha hk => by
 refine ⟨fun h0 => ?_, fun i hi => ?_⟩
 ·rw [hr] at h0; subst h0; cases hne
 ·rw [hr] at hi
  obtain ⟨o, ho, hw⟩ := h i hi
  have hi' : ol.toArray[i]? = some o := by rw [List.getElem?_toArray, ← nthO_eq]; exact ho
  rcases hw with ⟨e, hw⟩ | ⟨e, hw⟩
  ·refine ⟨fun _ => ?_, fun e2 => absurd e e2⟩
   refine wpOp_one hi' (hw (Exit.then (fun a' w' => S w' ∧ wpAnyH P .any ol.toArray Q S fuel (listed.toArray.setIfInBounds i true) a' w') Q) a ha (fun a' f' w' hg hh => ⟨hh.1, by
    have := hh.2 Q a' hp hg hk
    rw [setB_eq] at this
    simpa using this⟩))
  ·refine ⟨fun e2 => absurd e2 e, fun _ => ?_⟩
   refine wpOp_one hi' (hw (Exit.then (fun a' w' => S1 w' ∧ wpAnyG P .any ol.toArray Q k S1 S fuel (listed.toArray.setIfInBounds i true) a' w') Q) a ha (fun a' f' w' hg hh => ⟨hh.1, by
    have := hh.2 Q a' hp hg hk
    rw [setB_eq] at this
    simpa using this⟩))
theorem WG.split {g : Bool} (s : Nat) (_hs : lk f s = some (.bool g)) (hT : g = true → WG P n ol k S1 S fuel listed K f w) (hF : g = false → WG P n ol k S1 S fuel listed K f w) : WG P n ol k S1 S fuel listed K f w := by
 cases h : g
 ·exact hF h
 ·exact hT h
theorem WG.strS {w0 : World} {T : List Nat} {L : Hp} (_hs : St w0 T L w) (hi : ∀ w', St w0 T L w' → S1 w') (h : WG P n ol k (fun w' => St w0 T L w') S fuel listed K f w) : WG P n ol k S1 S fuel listed K f w := fun Q a hp ha hk => by
 have key : ∀ (fuel : Nat) (listed : Array Bool) (a : Act) (w : World), wpAnyG P .any ol.toArray Q k (fun w' => St w0 T L w') S fuel listed a w → wpAnyG P .any ol.toArray Q k S1 S fuel listed a w := by
  intro fuel
  induction fuel with
  | zero => intro listed a w h; exact h
  | succ fuel ih => intro listed a w h; exact ⟨h.1, fun i hi' => ⟨(h.2 i hi').1, fun e => wpOp_mono (fun a' w' h' => ⟨hi _ h'.1, ih _ _ _ h'.2⟩) ((h.2 i hi').2 e)⟩⟩
 exact key _ _ _ _ (h Q a hp ha hk)
end
def Closed (ops : Array Oper) (listed : Array Bool) : Prop := ∀ m o, ops[m]? = some o → listed.getD m false = true → ∀ e ∈ o.after, Region.binds .any e = true → listed.getD e.on false = true
def needsB (ol : List Oper) : Nat → Nat → Nat → Bool
 | 0, _, _ => false
 | fuel + 1, k, i => match nthO ol k with
  | some o => o.after.toList.any fun e => Region.binds .any e && (Nat.beq e.on i || needsB ol fuel e.on i)
  | none => false
def closedB (ol : List Oper) (listed : List Bool) : Bool := (List.range ol.length).all fun m => !(listed.toArray.getD m false) || match nthO ol m with
 | some o => o.after.toList.all fun e => !Region.binds .any e || listed.toArray.getD e.on false
 | none => true
def takesT (ol : List Oper) (listed : List Bool) (k i : Nat) : Bool := canTake ol listed i && (needsB ol ol.length k i && (closedB ol listed && !Nat.beq i k))
section
variable {P : Program} {Q : Exit → Act → World → Prop} {S S1 : World → Prop} {k : Nat} {ol : List Oper}
theorem nth_arr {m : Nat} {o : Oper} : ol.toArray[m]? = some o ↔ nthO ol m = some o := by rw [List.getElem?_toArray, ← nthO_eq]
theorem closed_of {listed : List Bool} (h : closedB ol listed = true) : Closed ol.toArray listed.toArray := fun m o ho hl e he hb => by
 unfold closedB at h
 rw [List.all_eq_true] at h
 have hm : m < ol.length := by
  have := (Array.getElem?_eq_some_iff.1 ho).1
  simpa using this
 have h1 := h m (List.mem_range.2 hm)
 rw [hl, nth_arr.1 ho] at h1
 simp only [Bool.not_true, Bool.false_or, List.all_eq_true] at h1
 have h2 := h1 e (Array.mem_toList_iff.2 he)
 rw [hb] at h2
 simpa using h2
theorem needs_listed {listed : Array Bool} (hc : Closed ol.toArray listed) {i : Nat} : ∀ (fuel x : Nat), (∀ o, nthO ol x = some o → ∀ e ∈ o.after, Region.binds .any e = true → listed.getD e.on false = true) → needsB ol fuel x i = true → listed.getD i false = true
 | 0, _, _, h => by cases h
 | fuel + 1, x, hx, h => by
  unfold needsB at h
  split at h
  ·rename_i o ho
   rw [List.any_eq_true] at h
   obtain ⟨e, he, h1⟩ := h
   rw [Bool.and_eq_true, Bool.or_eq_true] at h1
   have h2 := hx o ho e (Array.mem_toList_iff.1 he) h1.1
   rcases h1.2 with h3 | h3
   ·rw [Nat.eq_of_beq_eq_true h3] at h2; exact h2
   ·exact needs_listed hc fuel e.on (fun o' ho' => hc e.on o' (nth_arr.2 ho') h2) h3
  ·cases h
theorem Closed.set {ops : Array Oper} {listed : Array Bool} (hc : Closed ops listed) {j : Nat} (hj : j ∈ Region.ready .any ops listed) : Closed ops (listed.setIfInBounds j true) := fun m o ho hl e he hb => by
 obtain ⟨_, oj, hoj, hall⟩ := mem_ready.1 hj
 by_cases hm : m = j
 ·subst hm
  rw [hoj] at ho; cases ho
  exact getD_set_true (hall e he hb)
 ·have h1 : listed.getD m false = true := by
   rwa [getD_set_ne false (Ne.symm hm)] at hl
  exact getD_set_true (hc m o ho h1 e he hb)
theorem wpAnyG_firstT {i : Nat} {oi : Oper} {v : Value} (hi : ol.toArray[i]? = some oi) (hneed : needsB ol ol.length k i = true) (hik : i ≠ k) (hsel : ∀ (j : Nat) (o : Oper) cs b, ol.toArray[j]? = some o → o.op ≠ .select cs b)
  (hQ : ∀ c a w, Q (.panic c) (a.put oi.dst v) w → Q (.panic c) a w) :
  ∀ (fuel : Nat) (listed : Array Bool) (a : Act) (w : World), Closed ol.toArray listed →
   (∀ j oj, ol.toArray[j]? = some oj → j ≠ i → listed.getD j true = false → (∀ e ∈ oj.after, Region.binds .any e = true → e.on ≠ i) → oi.apart ol.toArray oj = true) →
   i ∈ Region.ready .any ol.toArray listed → YieldsIf P ol.toArray S1 oi v a → S1 w →
   wpAnyG P .any ol.toArray Q k S1 S fuel (listed.setIfInBounds i true) (a.put oi.dst v) w → wpAnyG P .any ol.toArray Q k S1 S (fuel + 1) listed a w := by
 intro fuel
 have hnotk : ∀ (listed : Array Bool), Closed ol.toArray listed → i ∈ Region.ready .any ol.toArray listed → k ∉ Region.ready .any ol.toArray listed := by
  intro listed hc hr hk
  obtain ⟨_, o', ho', hall⟩ := mem_ready.1 hk
  have h1 := needs_listed hc (i := i) ol.length k (fun o ho e he hb => by
   rw [nth_arr.2 ho] at ho'; cases ho'
   exact hall e he hb) hneed
  have h0 := (mem_ready.1 hr).1
  rcases Nat.lt_or_ge i listed.size with h' | h'
  ·simp [h'] at h0 h1; rw [h0] at h1; cases h1
  ·simp [Array.getElem?_eq_none h'] at h1
 induction fuel with
 | zero =>
  intro listed a w hcl _ hr hy hS H
  refine ⟨fun h => (by rw [h] at hr; cases hr), fun j hj => ⟨fun e => absurd (e ▸ hj) (hnotk _ hcl hr), fun _ => ?_⟩⟩
  by_cases hji : j = i
  ·subst hji; exact hy.wpOp hi hS ⟨hS, H⟩
  ·have := ready_mono hj hji
   rw [H.1] at this
   cases this
 | succ fuel ih =>
  intro listed a w hcl hfree hr hy hS H
  refine ⟨fun h => (by rw [h] at hr; cases hr), fun j hj => ⟨fun e => absurd (e ▸ hj) (hnotk _ hcl hr), fun hjk0 => ?_⟩⟩
  by_cases hji : j = i
  ·subst hji; exact hy.wpOp hi hS ⟨hS, H⟩
  ·have h1 := (H.2 j (ready_mono hj hji)).2 hjk0
   obtain ⟨hjun, oj, hoj, hall⟩ := mem_ready.1 hj
   have hnot : ∀ e ∈ oj.after, Region.binds .any e = true → e.on ≠ i := fun e he hb heq => by
    have h1 := hall e he hb
    have h0 := (mem_ready.1 hr).1
    rw [heq] at h1
    rcases Nat.lt_or_ge i listed.size with h' | h'
    ·simp [h'] at h0 h1; rw [h0] at h1; cases h1
    ·simp [Array.getElem?_eq_none h'] at h1
   have h2 := wpOp_putIf hoj (hfree j oj hoj hji hjun hnot) (fun cs b => hsel i oi cs b hi) (fun cs b => hsel j oj cs b hoj) hQ hy h1
   have hfree' : ∀ q oq, ol.toArray[q]? = some oq → q ≠ i → (listed.setIfInBounds j true).getD q true = false →
     (∀ e ∈ oq.after, Region.binds .any e = true → e.on ≠ i) → oi.apart ol.toArray oq = true := fun q oq hq hqi hun hno => by
    refine hfree q oq hq hqi ?_ hno
    by_cases hjq : j = q
    ·subst hjq; exact hjun
    ·rw [getD_set_ne true hjq] at hun; exact hun
   refine wpOp_mono (fun a' w' h3 => ⟨h3.2.1, ih (listed.setIfInBounds j true) a' w' (hcl.set hj) hfree' (ready_mono hr (Ne.symm hji)) h3.1 h3.2.1 ?_⟩) h2
   rw [Array.setIfInBounds_comm _ _ hji]
   exact h3.2.2
end
section
variable {P : Program} {n : Nat} {ol : List Oper} {o : Oper} {K : Fr → World → Prop} {f : Fr} {w : World} {d : Nat} {v : Value} {S S1 : World → Prop} {fuel k : Nat} {listed : List Bool}
theorem WG.tk (i : Nat) (hi : nthO ol i = some o) (hb : takesT ol listed k i = true) (hw : want ol o f = some true) (hd : o.dst = some d) (hn : Nat.blt d n = true) (hS : S1 w) (hy : ∀ w, S1 w → Run P o f w (.value v) w)
  (kk : WG P n ol k S1 S fuel (setB listed i) K ((d, v) :: f) w) : WG P n ol k S1 S (fuel + 1) listed K f w := fun Q a hp ha hk => by
 simp only [takesT, canTake, Bool.and_eq_true] at hb
 have hi' : ol.toArray[i]? = some o := nth_arr.2 hi
 refine wpAnyG_firstT (v := v) hi' hb.2.1 (by rintro rfl; have h9 := hb.2.2.2; rw [Nat.beq_refl] at h9; cases h9) (Region.noSelect_spec hb.1.1.1) (fun c a w hh => absurd hh (hp _ _ _)) fuel _ _ _ (closed_of hb.2.2.1) (Region.free_spec hi' hb.1.1.2) (by simpa using hb.1.2) (.inl ⟨want_eq ha hw, fun w hSw => hy w hSw a.eval fun x u hx => ha.ev hx⟩) hS ?_
 have := kk Q _ hp (ha.put hn v) hk
 rw [setB_eq] at this
 rw [hd]
 simpa using this
end
class TbOk (P : Program) (tb : outParam TT) : Prop where
 ok : tb.Ok P
class Mx (P : Program) : Prop where
 ok : P.follows .mixedOrders = true
section
variable {P : Program} {tb : TT} {w0 w : World} {T : List Nat} {L : Hp} {n : Nat} {ol : List Oper} {act : List (Nat × Bool)} {K : Fr → World → Prop} {KQ : Fr → Prop} {C : World → Prop}
theorem WL.r [t : TbOk P tb] (m : Nat) (hst : St w0 T L w) (h : List Nat) {l l' : List Oper} {f f' : Fr} {S : Prop} (hr : runs tb n ol L [] m l f h True = some (l', f', S)) (k : WL P n ol l' K f' w) (hS : S := by repeat (first | exact trivial | refine ⟨by first | exact rfl | omega | exact u8_in _ | (constructor <;> omega), ?_⟩)) : WL P n ol l K f w := WL.run t.ok m hst h hr hS k
theorem WQ.r [t : TbOk P tb] (m : Nat) (h : List Nat) {l l' : List Oper} {f f' : Fr} {S : Prop} (hr : runs tb n ol L [] m l f h True = some (l', f', S)) (k : WQ P n ol l' (fun w' => St w0 T L w') KQ f') (hS : S := by repeat (first | exact trivial | refine ⟨by first | exact rfl | omega | exact u8_in _ | (constructor <;> omega), ?_⟩)) : WQ P n ol l (fun w' => St w0 T L w') KQ f := WQ.run t.ok m h hr hS k
theorem WC.r1 [t : TbOk P tb] {id : Nat} {l : List Oper} {y : Code} {Q : Kont} {f f' : Fr} {S : Prop} (hst : St w0 T L w) (h : List Nat) (hr : runs tb n l L [] l.length l f h True = some ([], f', S)) (k : WC P n y Q f' w) (hS : S := by repeat (first | exact trivial | refine ⟨by first | exact rfl | omega | exact u8_in _ | (constructor <;> omega), ?_⟩)) : WC P n (.seq (.region id l.toArray false) y) Q f w := WC.rr t.ok hst h hr hS k
theorem WC.q1 [t : TbOk P tb] [m : Mx P] {id : Nat} {l : List Oper} {y : Code} {Q : Kont} {f f' : Fr} {S : Prop} (hst : St w0 T L w) (h : List Nat) (hr : runs tb n l L [] l.length l f h True = some ([], f', S)) (k : ∀ w', St w0 T L w' → WC P n y Q f' w') (hl : Region.lexB .any l.toArray = true := by kernel_rfl) (hS : S := by repeat (first | exact trivial | refine ⟨by first | exact rfl | omega | exact u8_in _ | (constructor <;> omega), ?_⟩)) : WC P n (.seq (.region id l.toArray true) y) Q f w := WC.rq t.ok hst m.ok hl h hr hS k
theorem WC.sq1 [m : Mx P] {id : Nat} {l : List Oper} {y : Code} {Q : Kont} {f : Fr} (hst : St w0 T L w) (h : WQ P n l l (fun w' => St w0 T L w') (fun f' => ∀ w', St w0 T L w' → WC P n y Q f' w') f) (hl : Region.lexB .any l.toArray = true := by kernel_rfl) : WC P n (.seq (.region id l.toArray true) y) Q f w := WC.sq hst m.ok hl h
end
def hruns (tb : TT) (n : Nat) (ol : List Oper) (L : Hp) (act : List (Nat × Bool)) : List Nat → Fr → List Nat → Prop → Option (Fr × Prop)
 | [], f, _, S => some (f, S)
 | i :: is, f, h, S => match nthO ol i with
  | some o => (match o.dst with
   | some d => bif wantA ol act o f && Nat.blt d n && frB act f d then sv tb L o.op f h S fun v h' S' => hruns tb n ol L act is ((d, v) :: f) h' S' else none
   | none => none)
  | none => none
def setBs : List Bool → List Nat → List Bool
 | l, [] => l
 | l, i :: r => setBs (setB l i) r
def fuelB : Nat → List Nat → Option Nat
 | m, [] => some m
 | m + 1, _ :: r => fuelB m r
 | 0, _ :: _ => none
def looks (ol : List Oper) (i : Nat) : Bool := match nthO ol i with
 | some o => (match o.op with
  | .load _ _ => true
  | _ => false)
 | none => true
def takesH (ol : List Oper) : List Bool → List Nat → Bool
 | _, [] => true
 | l, i :: r => canTake ol l i && takesH ol (setB l i) r
def takesG (ol : List Oper) (k : Nat) : List Bool → List Nat → Bool
 | _, [] => true
 | l, i :: r => (takesT ol l k i || (canTake ol l i && (!Nat.beq i k && !looks ol i))) && takesG ol k (setB l i) r
theorem sv_look {β : Type} {tb : TT} {L : Hp} {op : Op} {f : Fr} {h : List Nat} {S : Prop} {k : Value → List Nat → Prop → Option β} (hn : ∀ t x, op ≠ .load t x) : sv tb L op f h S k = sv tb [] op f h S k := by
 cases op <;> first | rfl | exact absurd rfl (hn _ _)
theorem looks_no {ol : List Oper} {i : Nat} {o : Oper} (hi : nthO ol i = some o) (h : looks ol i = false) (t : TypeId) (x : Operand) : o.op ≠ .load t x := fun e => by
 unfold looks at h
 rw [hi] at h
 simp only [e] at h
 cases h
section
variable {P : Program} {tb : TT} {w0 w : World} {T : List Nat} {L : Hp} {n : Nat} {ol : List Oper} {act : List (Nat × Bool)} {K : Fr → World → Prop} {S0 : World → Prop} {k : Nat}
theorem hruns_ok (htb : tb.Ok P) : ∀ {is : List Nat} {listed : List Bool} {F fuel : Nat} {f f' : Fr} {h : List Nat} {S S' : Prop}, Acts ol act f → hruns tb n ol L act is f h S = some (f', S') → fuelB F is = some fuel → S' →
  S ∧ (takesH ol listed is = true → ∀ w, St w0 T L w → WH P n ol (fun w' => St w0 T L w') fuel (setBs listed is) K f' w → WH P n ol (fun w' => St w0 T L w') F listed K f w)
   ∧ (takesG ol k listed is = true → ∀ w, St w0 T L w → WG P n ol k (fun w' => St w0 T L w') S0 fuel (setBs listed is) K f' w → WG P n ol k (fun w' => St w0 T L w') S0 F listed K f w)
 | [], listed, F, fuel, f, f', h, S, S', ha, hr, hf, hS => by
  simp only [hruns, Option.some.injEq, Prod.mk.injEq] at hr
  obtain ⟨rfl, rfl⟩ := hr
  have : F = fuel := by cases F <;> simpa [fuelB] using hf
  subst this
  exact ⟨hS, fun _ _ _ => id, fun _ _ _ => id⟩
 | i :: is, listed, 0, fuel, f, f', h, S, S', ha, hr, hf, hS => by cases hf
 | i :: is, listed, F + 1, fuel, f, f', h, S, S', ha, hr, hf, hS => by
  unfold hruns at hr
  split at hr
  ·rename_i o hi
   split at hr
   ·rename_i d hd
    cases hc : (wantA ol act o f && Nat.blt d n && frB act f d) with
    | false => rw [hc] at hr; cases hr
    | true =>
     rw [hc] at hr
     dsimp only [cond_true] at hr
     simp only [Bool.and_eq_true] at hc
     have hw := wantA_ok ha hc.1.1
     obtain ⟨v, h', S1, hk, hv⟩ := sv_ok htb hr
     obtain ⟨h1, h2, h3⟩ := hruns_ok (listed := setB listed i) htb (frB_ok ha hc.2) hk hf hS
     obtain ⟨h5, h6⟩ := hv h1
     have hy : ∀ w, St w0 T L w → Run P o f w (.value v) w := fun w hst => h6 w (fun p hp => (hst.own p hp).1) o rfl
     refine ⟨h5, fun ht w hst kk => ?_, fun ht w hst kk => ?_⟩
     ·simp only [takesH, Bool.and_eq_true] at ht
      exact WH.take i hi ht.1 hw hd hc.1.2 hst hy (h2 ht.2 w hst kk)
     ·simp only [takesG, Bool.and_eq_true, Bool.or_eq_true, Bool.not_eq_true'] at ht
      rcases ht.1 with ht1 | ⟨ht1, ht2, ht3⟩
      ·exact WG.tk i hi ht1 hw hd hc.1.2 hst hy (h3 ht.2 w hst kk)
      ·rw [sv_look (looks_no hi ht3)] at hr
       obtain ⟨v', h'', S2, hk', hv'⟩ := sv_ok htb hr
       obtain ⟨g1, g2, g3⟩ := hruns_ok (listed := setB listed i) htb (frB_ok ha hc.2) hk' hf hS
       obtain ⟨g5, g6⟩ := hv' g1
       exact WG.takeB i hi ht1 ht2 hw hd hc.1.2 hst (fun w => g6 w (fun p hp => by cases hp) o rfl) (g3 ht.2 w hst kk)
   ·cases hr
  ·cases hr
theorem WH.rn [t : TbOk P tb] (is : List Nat) (hst : St w0 T L w) (h : List Nat) {listed : List Bool} {F fuel : Nat} {f f' : Fr} {S : Prop} (hr : hruns tb n ol L [] is f h True = some (f', S)) (hf : fuelB F is = some fuel) (kk : WH P n ol (fun w' => St w0 T L w') fuel (setBs listed is) K f' w) (hb : takesH ol listed is = true := by kernel_rfl)
  (hS : S := by repeat (first | exact trivial | refine ⟨by first | exact rfl | omega | exact u8_in _ | (constructor <;> omega), ?_⟩)) : WH P n ol (fun w' => St w0 T L w') F listed K f w :=
 (hruns_ok (k := 0) (S0 := fun _ => True) t.ok Acts.nil hr hf hS).2.1 hb w hst kk
theorem WH.rnA [t : TbOk P tb] {f : Fr} (ha : Acts ol act f) (is : List Nat) (hst : St w0 T L w) (h : List Nat) {listed : List Bool} {F fuel : Nat} {f' : Fr} {S : Prop} (hr : hruns tb n ol L act is f h True = some (f', S)) (hf : fuelB F is = some fuel) (kk : WH P n ol (fun w' => St w0 T L w') fuel (setBs listed is) K f' w) (hb : takesH ol listed is = true := by kernel_rfl)
  (hS : S := by repeat (first | exact trivial | refine ⟨by first | exact rfl | omega | exact u8_in _ | (constructor <;> omega), ?_⟩)) : WH P n ol (fun w' => St w0 T L w') F listed K f w :=
 (hruns_ok (k := 0) (S0 := fun _ => True) t.ok ha hr hf hS).2.1 hb w hst kk
theorem WG.rn [t : TbOk P tb] (is : List Nat) (hst : St w0 T L w) (h : List Nat) {listed : List Bool} {F fuel : Nat} {f f' : Fr} {S : Prop} (hr : hruns tb n ol L [] is f h True = some (f', S)) (hf : fuelB F is = some fuel) (kk : WG P n ol k (fun w' => St w0 T L w') S0 fuel (setBs listed is) K f' w) (hb : takesG ol k listed is = true := by kernel_rfl)
  (hS : S := by repeat (first | exact trivial | refine ⟨by first | exact rfl | omega | exact u8_in _ | (constructor <;> omega), ?_⟩)) : WG P n ol k (fun w' => St w0 T L w') S0 F listed K f w :=
 (hruns_ok (k := k) (S0 := S0) t.ok Acts.nil hr hf hS).2.2 hb w hst kk
theorem WG.rnA [t : TbOk P tb] {f : Fr} (ha : Acts ol act f) (is : List Nat) (hst : St w0 T L w) (h : List Nat) {listed : List Bool} {F fuel : Nat} {f' : Fr} {S : Prop} (hr : hruns tb n ol L act is f h True = some (f', S)) (hf : fuelB F is = some fuel) (kk : WG P n ol k (fun w' => St w0 T L w') S0 fuel (setBs listed is) K f' w) (hb : takesG ol k listed is = true := by kernel_rfl)
  (hS : S := by repeat (first | exact trivial | refine ⟨by first | exact rfl | omega | exact u8_in _ | (constructor <;> omega), ?_⟩)) : WG P n ol k (fun w' => St w0 T L w') S0 F listed K f w :=
 (hruns_ok (k := k) (S0 := S0) t.ok ha hr hf hS).2.2 hb w hst kk
end
section
variable {P : Program} {n : Nat} {ol : List Oper} {o : Oper} {K : Fr → World → Prop} {f : Fr} {w : World} {S S1 : World → Prop} {fuel k : Nat} {listed : List Bool}
theorem WH.o1 (i : Nat) (hi : nthO ol i = some o) (h : WL P n ol [o] (fun f' w' => S w' ∧ WH P n ol S fuel (setB listed i) K f' w') f w) (hr : Region.ready .any ol.toArray listed.toArray = [i] := by kernel_rfl) : WH P n ol S (fuel + 1) listed K f w := WH.all [i] hr rfl (WHs.cons hi h WHs.nil)
theorem WG.o1 (i : Nat) (hi : nthO ol i = some o) (hn : Nat.beq i k = false) (h : WL P n ol [o] (fun f' w' => S1 w' ∧ WG P n ol k S1 S fuel (setB listed i) K f' w') f w) (hr : Region.ready .any ol.toArray listed.toArray = [i] := by kernel_rfl) : WG P n ol k S1 S (fuel + 1) listed K f w := WG.all [i] hr rfl (WGs.cons hi hn h WGs.nil)
theorem WH.dn (h : K f w) (hr : Region.ready .any ol.toArray listed.toArray = [] := by kernel_rfl) : WH P n ol S fuel listed K f w := WH.done hr h
theorem WL.n2 (h1 : S w) (h2 : WH P n ol S1 fuel listed K f w) : WL P n ol [] (fun f' w' => S w' ∧ WH P n ol S1 fuel listed K f' w') f w := WL.nil ⟨h1, h2⟩
end
section
variable {P : Program} {n : Nat} {w0 w : World} {T : List Nat} {L L0 L1 : Hp} {f : Fr}
theorem WC.rH [m : Mx P] {id : Nat} {l : List Oper} {Q : Kont} (h0 : St w0 T L0 w) (h1 : St w0 T L w) (h : ∀ w', St w0 T L w' → WH P n l (fun w' => St w0 T L0 w') l.length (List.replicate l.length false) (fun f w => Q .normal f w) f w') : WC P n (.region id l.toArray true) Q f w := WC.regionH2 _ _ m.ok h0.drew h1.drew h
end
class Fr1 (X L : Hp) (R : outParam Hp) : Prop where
 pf : (X ++ R).Perm L
theorem fr1_mid {X A R L : Hp} (h : (X ++ R).Perm L) : (X ++ (A ++ R)).Perm (A ++ L) := perm_front h
instance (priority := low) fr1End {X : Hp} : Fr1 X X [] := ⟨by rw [List.append_nil]⟩
instance fr1App {X L R A : Hp} [h : Fr1 X L R] : Fr1 X (A ++ L) (A ++ R) := ⟨fr1_mid h.pf⟩
instance fr1Cons {X L R : Hp} {p : Nat × Obj} [h : Fr1 X L R] : Fr1 X (p :: L) (p :: R) := ⟨fr1_mid (A := [p]) h.pf⟩
instance (priority := high) fr1Nil {L : Hp} : Fr1 [] L L := ⟨List.Perm.refl _⟩
instance (priority := high) fr1Here {X R : Hp} : Fr1 X (X ++ R) R := ⟨List.Perm.refl _⟩
instance fr1App' {X L R A : Hp} [h : Fr1 X L R] : Fr1 X (A.append L) (A ++ R) := ⟨fr1_mid h.pf⟩
instance (priority := high) fr1Here' {X R : Hp} : Fr1 X (X.append R) R := ⟨List.Perm.refl _⟩
class FrB (b : Nat) (L : Hp) (o : outParam Obj) (R : outParam Hp) : Prop where
 pf : ((b, o) :: R).Perm L
instance frbApp {b : Nat} {o : Obj} {L R A : Hp} [h : FrB b L o R] : FrB b (A ++ L) o (A ++ R) := ⟨fr1_mid (X := [(b, o)]) h.pf⟩
instance frbCons {b : Nat} {o : Obj} {L R : Hp} {p : Nat × Obj} [h : FrB b L o R] : FrB b (p :: L) o (p :: R) := ⟨fr1_mid (X := [(b, o)]) (A := [p]) h.pf⟩
instance frbApp' {b : Nat} {o : Obj} {L R A : Hp} [h : FrB b L o R] : FrB b (A.append L) o (A ++ R) := ⟨fr1_mid (X := [(b, o)]) h.pf⟩
instance frbIn {b : Nat} {o : Obj} {L R A : Hp} {p : Nat × Obj} [h : FrB b (A ++ L) o R] : FrB b ((p :: A) ++ L) o (p :: R) := ⟨fr1_mid (X := [(b, o)]) (A := [p]) h.pf⟩
instance frbIn' {b : Nat} {o : Obj} {L R A : Hp} {p : Nat × Obj} [h : FrB b (A.append L) o R] : FrB b (List.append (p :: A) L) o (p :: R) := ⟨fr1_mid (X := [(b, o)]) (A := [p]) h.pf⟩
instance (priority := high) frbHd {b : Nat} {o : Obj} {R A : Hp} : FrB b (((b, o) :: A) ++ R) o (A ++ R) := ⟨List.Perm.refl _⟩
instance (priority := high) frbHd' {b : Nat} {o : Obj} {R A : Hp} : FrB b (List.append ((b, o) :: A) R) o (A ++ R) := ⟨List.Perm.refl _⟩
instance (priority := high) frbOne' {b : Nat} {o : Obj} {R : Hp} : FrB b (List.append [(b, o)] R) o R := ⟨List.Perm.refl _⟩
instance (priority := high) frbOne {b : Nat} {o : Obj} {R : Hp} : FrB b ([(b, o)] ++ R) o R := ⟨List.Perm.refl _⟩
instance (priority := high) frbHere {b : Nat} {o : Obj} {R : Hp} : FrB b ((b, o) :: R) o R := ⟨List.Perm.refl _⟩
section
variable {w0 w : World} {T : List Nat} {L R A B C D R1 R2 R3 R4 : Hp} {o : Obj} {p q : Nat × Obj}
theorem St.fr (h : St w0 T L w) (X : Hp) [k : Fr1 X L R] : St w0 T (X ++ R) w := h.perm k.pf
theorem St.rm (h : St w0 T L w) (X : Hp) [k : Fr1 X L R] : St w0 T R w := (h.perm k.pf).drop (sR _)
theorem St.fb (h : St w0 T L w) (b : Nat) [k : FrB b L o R] : St w0 T ((b, o) :: R) w := h.perm k.pf
theorem St.ow (h : St w0 T L w) (X : Hp) [k : Fr1 X L R] : ∀ p, p ∈ X → w.heap[p.1]? = some p.2 := fun p hp => (h.own p (k.pf.mem_iff.1 (List.mem_append_left _ hp))).1
theorem St.d1 (h : St w0 T (p :: L) w) : St w0 T L w := h.drop (List.sublist_cons_self _ _)
end
class BoolP (b : Bool) (p q : outParam Prop) : Prop where
 t : b = true → p
 f : b = false → q
instance (priority := low) boolP0 {b : Bool} : BoolP b (b = true) (b = false) := ⟨id, id⟩
instance boolPD {p : Prop} [d : Decidable p] : BoolP (decide p) p (¬ p) := ⟨of_decide_eq_true, of_decide_eq_false⟩
instance boolPN {b : Bool} {p q : Prop} [h : BoolP b p q] : BoolP (!b) q p := ⟨fun e => h.f (by simpa using e), fun e => h.t (by simpa using e)⟩
instance boolPA {a b : Bool} {p q p' q' : Prop} [h : BoolP a p q] [k : BoolP b p' q'] : BoolP (a && b) (p ∧ p') ((a && b) = false) := ⟨fun e => by rw [Bool.and_eq_true] at e; exact ⟨h.t e.1, k.t e.2⟩, id⟩
instance boolPO {a b : Bool} {p q p' q' : Prop} [h : BoolP a p q] [k : BoolP b p' q'] : BoolP (a || b) ((a || b) = true) (q ∧ q') := ⟨id, fun e => by rw [Bool.or_eq_false_iff] at e; exact ⟨h.f e.1, k.f e.2⟩⟩
section
variable {P : Program} {n : Nat} {w : World} {f : Fr}
theorem WC.cq {c : Operand} {x y : Code} {t : Bool} {p q : Prop} {Q : Kont} (hc : ev f c = some (.bool t)) [i : BoolP t p q] (hx : t = true → p → WC P n x Q f w) (hy : t = false → q → WC P n y Q f w) : WC P n (.cond c x y) Q f w :=
 WC.cond hc (fun h => hx h (i.t h)) (fun h => hy h (i.f h))
end
def rstr : List Nat → Fr → Option Fr
 | [], _ => some []
 | i :: r, f => match lk f i with
  | some v => (match rstr r f with
   | some g => some ((i, v) :: g)
   | none => none)
  | none => none
theorem rstr_ok : ∀ {is : List Nat} {f F : Fr}, rstr is f = some F → Sub F f
 | [], f, F, h => by simp only [rstr, Option.some.injEq] at h; subst h; trivial
 | i :: r, f, F, h => by
  unfold rstr at h
  split at h
  ·rename_i v hv
   split at h
   ·rename_i g hg
    simp only [Option.some.injEq] at h
    subst h
    exact ⟨hv, rstr_ok hg⟩
   ·cases h
  ·cases h
def keysF : Fr → List Nat
 | [] => []
 | (i, _) :: r => i :: keysF r
theorem sbF {F f : Fr} (h : rstr (keysF F) f = some F) : Sub F f := rstr_ok h
section
variable {P : Program} {n : Nat} {c : Code} {Q : Kont} {f : Fr} {w0 w : World} {T : List Nat} {R L L0 : Hp}
theorem WC.lV {F : Fr} {L0 : Hp} (is : List Nat) (hF : rstr is f = some F) (hst : St w0 T (L0 ++ R) w) (I : Nat → Hp → Fr → Prop) (k0 : Nat) (h0 : I k0 L0 f)
  (hr : ∀ k a f w, I k a f → Sub F f → St w0 T (a ++ R) w → WC P n c (thenK (fun f' w' => Sub F f' ∧ ∃ a', St w0 T (a' ++ R) w' ∧ ∃ k', k' < k ∧ I k' a' f') Q) f w) : WC P n (.loop c) Q f w :=
 WC.loopV (α := Hp) F (rstr_ok hF) (fun a => a) L0 hst I k0 h0 hr
theorem WC.lS {F : Fr} (is : List Nat) (hF : rstr is f = some F) (hst : St w0 T L w) (I : Nat → Fr → World → Prop) (k0 : Nat) (h0 : I k0 f w)
  (hr : ∀ k f w, I k f w → Sub F f → St w0 T L w → WC P n c (thenK (fun f' w' => Sub F f' ∧ St w0 T L w' ∧ ∃ k', k' < k ∧ I k' f' w') Q) f w) : WC P n (.loop c) Q f w :=
 WC.loopS F (rstr_ok hF) hst I k0 h0 hr
theorem WC.lO {F : Fr} (is : List Nat) (hF : rstr is f = some F) (hst : St w0 T (L0 ++ R) w) (I : Nat → Fr → Hp → Prop) (k0 : Nat) (h0 : I k0 f L0)
  (hr : ∀ k f w L, I k f L → Sub F f → St w0 T (L ++ R) w → WC P n c (thenK (fun f' w' => Sub F f' ∧ ∃ L', St w0 T (L' ++ R) w' ∧ ∃ k', k' < k ∧ I k' f' L') Q) f w) : WC P n (.loop c) Q f w :=
 WC.loopO F (rstr_ok hF) hst I k0 h0 hr
end
def clC (n : Nat) (o : Oper) (f : Fr) : Option (FuncId × List Value × Nat) :=
 match o.guard, o.dst, o.op with
 | none, some d, .call c => (match c.callee with
  | .value fo => (match ev f fo, evs f c.args.toList with
   | some (.func (.func g) ⟨[]⟩ ⟨[]⟩), some vl => bif Nat.blt d n then some (g, vl, d) else none
   | _, _ => none)
  | _ => none)
 | _, _, _ => none
section
variable {P : Program} {n : Nat} {ol rest : List Oper} {o : Oper} {K : Fr → World → Prop} {f : Fr} {w : World}
theorem WL.cl {g d : Nat} {vl : List Value} {R : Ending → World → Prop} (hf : ∀ args w, (callFunc g args).run P w = .ok (.enter g args) w) (h : clC n o f = some (g, vl, d)) (hc : Calls P g vl.toArray w R) (k : ∀ e w', R e w' → ∃ v, e = .returned v ∧ WL P n ol rest K ((d, v) :: f) w') : WL P n ol (o :: rest) K f w := by
 unfold clC at h
 split at h
 ·rename_i d' c hg hd ho
  split at h
  ·rename_i fo hcal
   split at h
   ·rename_i g' vl' hfo hvs
    cases hn : Nat.blt d' n with
    | false => rw [hn] at h; cases h
    | true =>
     rw [hn] at h
     simp only [cond_true, Option.some.injEq, Prod.mk.injEq] at h
     obtain ⟨rfl, rfl, rfl⟩ := h
     refine WL.call (want_none hg) hd hn (Run.call (ts := c.argTypes) (args := c.args) hf ?_ hfo hvs) hc k
     rw [ho]
     obtain ⟨c1, c2, c3⟩ := c
     simp only at hcal
     subst hcal
     rfl
   ·cases h
  ·cases h
 ·cases h
end
def tbt1 : TT := .node .leaf 0 ⟨.other, 1, false⟩ .leaf
def tbt2 : TT := .node .leaf 4 ⟨.bool, 1, false⟩ .leaf
def tbt3 : TT := .node tbt1 3 ⟨.int .i64, 1, false⟩ tbt2
def tbt4 : TT := .node .leaf 9 ⟨.str, 1, false⟩ .leaf
def tbt5 : TT := .node .leaf 23 ⟨.slice 147, 1, false⟩ .leaf
def tbt6 : TT := .node tbt4 22 ⟨.slice 143, 1, false⟩ tbt5
def tbt7 : TT := .node tbt3 5 ⟨.int .u8, 1, false⟩ tbt6
def tbt8 : TT := .node .leaf 26 ⟨.struct [0, 1, 2, 3, 4, 5, 6], 7, true⟩ .leaf
def tbt9 : TT := .node .leaf 30 ⟨.slice 58, 1, false⟩ .leaf
def tbt10 : TT := .node tbt8 29 ⟨.slice 93, 1, false⟩ tbt9
def tbt11 : TT := .node .leaf 33 ⟨.struct [0, 1, 2, 3, 4, 5, 6], 7, true⟩ .leaf
def tbt12 : TT := .node .leaf 44 ⟨.slice 5, 1, false⟩ .leaf
def tbt13 : TT := .node tbt11 37 ⟨.other, 1, false⟩ tbt12
def tbt14 : TT := .node tbt10 31 ⟨.slice 106, 1, false⟩ tbt13
def tbt15 : TT := .node tbt7 24 ⟨.slice 149, 1, false⟩ tbt14
def tbt16 : TT := .node .leaf 58 ⟨.struct [0, 1, 2, 3, 4], 5, true⟩ .leaf
def tbt17 : TT := .node .leaf 66 ⟨.other, 1, false⟩ .leaf
def tbt18 : TT := .node tbt16 60 ⟨.slice 3, 1, false⟩ tbt17
def tbt19 : TT := .node .leaf 72 ⟨.other, 1, false⟩ .leaf
def tbt20 : TT := .node .leaf 76 ⟨.struct [0, 1, 2], 3, true⟩ .leaf
def tbt21 : TT := .node tbt19 74 ⟨.slice 164, 1, false⟩ tbt20
def tbt22 : TT := .node tbt18 71 ⟨.struct [0, 1, 2, 3, 4], 5, true⟩ tbt21
def tbt23 : TT := .node .leaf 80 ⟨.other, 1, false⟩ .leaf
def tbt24 : TT := .node .leaf 86 ⟨.struct [0, 1, 2, 3, 4], 5, true⟩ .leaf
def tbt25 : TT := .node tbt23 84 ⟨.struct [0, 1, 2, 3], 4, true⟩ tbt24
def tbt26 : TT := .node .leaf 89 ⟨.struct [0, 1, 2, 5, 8, 9, 10, 11, 12, 17, 18, 19, 20, 21, 22, 23, 28, 29, 30], 31, true⟩ .leaf
def tbt27 : TT := .node .leaf 93 ⟨.struct [0, 1, 2, 3, 4, 5, 6], 41, true⟩ .leaf
def tbt28 : TT := .node tbt26 91 ⟨.struct [0, 4], 35, true⟩ tbt27
def tbt29 : TT := .node tbt25 87 ⟨.slice 181, 1, false⟩ tbt28
def tbt30 : TT := .node tbt22 77 ⟨.other, 1, false⟩ tbt29
def tbt31 : TT := .node tbt15 56 ⟨.slice 103, 1, false⟩ tbt30
def tbt32 : TT := .node .leaf 103 ⟨.struct [0, 1, 2], 3, true⟩ .leaf
def tbt33 : TT := .node .leaf 132 ⟨.struct [0, 1, 2, 3], 4, true⟩ .leaf
def tbt34 : TT := .node tbt32 106 ⟨.struct [0, 1, 2], 3, true⟩ tbt33
def tbt35 : TT := .node .leaf 135 ⟨.struct [0, 1, 2], 3, true⟩ .leaf
def tbt36 : TT := .node .leaf 137 ⟨.slice 285, 1, false⟩ .leaf
def tbt37 : TT := .node tbt35 136 ⟨.struct [0, 1, 2, 3, 4], 5, true⟩ tbt36
def tbt38 : TT := .node tbt34 133 ⟨.slice 308, 1, false⟩ tbt37
def tbt39 : TT := .node .leaf 141 ⟨.struct [0, 4], 35, true⟩ .leaf
def tbt40 : TT := .node .leaf 145 ⟨.slice 230, 1, false⟩ .leaf
def tbt41 : TT := .node tbt39 143 ⟨.struct [0, 1, 2, 3, 4, 5, 6], 41, true⟩ tbt40
def tbt42 : TT := .node .leaf 149 ⟨.struct [0, 1, 2], 3, true⟩ .leaf
def tbt43 : TT := .node .leaf 159 ⟨.other, 1, false⟩ .leaf
def tbt44 : TT := .node tbt42 158 ⟨.slice 71, 1, false⟩ tbt43
def tbt45 : TT := .node tbt41 147 ⟨.struct [0, 1, 2, 3, 4], 5, true⟩ tbt44
def tbt46 : TT := .node tbt38 139 ⟨.struct [0, 1, 2, 5, 8, 9, 10, 11, 12, 17, 18, 19, 20, 21, 22, 23, 28, 29, 30], 31, true⟩ tbt45
def tbt47 : TT := .node .leaf 164 ⟨.struct [0, 1], 6, true⟩ .leaf
def tbt48 : TT := .node .leaf 181 ⟨.struct [0], 1, true⟩ .leaf
def tbt49 : TT := .node tbt47 168 ⟨.other, 1, false⟩ tbt48
def tbt50 : TT := .node .leaf 210 ⟨.other, 1, false⟩ .leaf
def tbt51 : TT := .node .leaf 233 ⟨.int .u64, 1, false⟩ .leaf
def tbt52 : TT := .node tbt50 230 ⟨.struct [0, 1, 2], 3, true⟩ tbt51
def tbt53 : TT := .node tbt49 206 ⟨.other, 1, false⟩ tbt52
def tbt54 : TT := .node .leaf 244 ⟨.slice 76, 1, false⟩ .leaf
def tbt55 : TT := .node .leaf 272 ⟨.other, 1, false⟩ .leaf
def tbt56 : TT := .node tbt54 263 ⟨.other, 1, false⟩ tbt55
def tbt57 : TT := .node .leaf 285 ⟨.struct [0], 1, true⟩ .leaf
def tbt58 : TT := .node tbt57 308 ⟨.struct [0, 1], 6, true⟩ .leaf
def tbt59 : TT := .node tbt56 273 ⟨.other, 1, false⟩ tbt58
def tbt60 : TT := .node tbt53 239 ⟨.other, 1, false⟩ tbt59
def tbt61 : TT := .node tbt46 162 ⟨.other, 1, false⟩ tbt60
def tbt62 : TT := .node tbt31 94 ⟨.other, 1, false⟩ tbt61
theorem tbt1_ok : tbt1.Ok Tryz.prog := ⟨trivial, ⟨trivial, Tryz.sizeOf0, Tryz.isAgg0⟩, trivial⟩
theorem tbt2_ok : tbt2.Ok Tryz.prog := ⟨trivial, ⟨Tryz.runUnderlying4, Tryz.sizeOf4, Tryz.isAgg4⟩, trivial⟩
theorem tbt3_ok : tbt3.Ok Tryz.prog := ⟨tbt1_ok, ⟨Tryz.runUnderlying3, Tryz.sizeOf3, Tryz.isAgg3⟩, tbt2_ok⟩
theorem tbt4_ok : tbt4.Ok Tryz.prog := ⟨trivial, ⟨Tryz.runUnderlying9, Tryz.sizeOf9, Tryz.isAgg9⟩, trivial⟩
theorem tbt5_ok : tbt5.Ok Tryz.prog := ⟨trivial, ⟨Tryz.runUnderlying23, Tryz.sizeOf23, Tryz.isAgg23⟩, trivial⟩
theorem tbt6_ok : tbt6.Ok Tryz.prog := ⟨tbt4_ok, ⟨Tryz.runUnderlying22, Tryz.sizeOf22, Tryz.isAgg22⟩, tbt5_ok⟩
theorem tbt7_ok : tbt7.Ok Tryz.prog := ⟨tbt3_ok, ⟨Tryz.runUnderlying5, Tryz.sizeOf5, Tryz.isAgg5⟩, tbt6_ok⟩
theorem tbt8_ok : tbt8.Ok Tryz.prog := ⟨trivial, ⟨⟨_, Tryz.runUnderlying26, rfl, ⟨⟨_, Tryz.sizeOf3, rfl⟩, ⟨⟨_, Tryz.sizeOf3, rfl⟩, ⟨⟨_, Tryz.sizeOf3, rfl⟩, ⟨⟨_, Tryz.sizeOf3, rfl⟩, ⟨⟨_, Tryz.sizeOf22, rfl⟩, ⟨⟨_, Tryz.sizeOf23, rfl⟩, ⟨⟨_, Tryz.sizeOf24, rfl⟩, trivial⟩⟩⟩⟩⟩⟩⟩⟩, Tryz.sizeOf26, Tryz.isAgg26⟩, trivial⟩
theorem tbt9_ok : tbt9.Ok Tryz.prog := ⟨trivial, ⟨Tryz.runUnderlying30, Tryz.sizeOf30, Tryz.isAgg30⟩, trivial⟩
theorem tbt10_ok : tbt10.Ok Tryz.prog := ⟨tbt8_ok, ⟨Tryz.runUnderlying29, Tryz.sizeOf29, Tryz.isAgg29⟩, tbt9_ok⟩
theorem tbt11_ok : tbt11.Ok Tryz.prog := ⟨trivial, ⟨⟨_, Tryz.runUnderlying33, rfl, ⟨⟨_, Tryz.sizeOf3, rfl⟩, ⟨⟨_, Tryz.sizeOf3, rfl⟩, ⟨⟨_, Tryz.sizeOf3, rfl⟩, ⟨⟨_, Tryz.sizeOf3, rfl⟩, ⟨⟨_, Tryz.sizeOf29, rfl⟩, ⟨⟨_, Tryz.sizeOf30, rfl⟩, ⟨⟨_, Tryz.sizeOf31, rfl⟩, trivial⟩⟩⟩⟩⟩⟩⟩⟩, Tryz.sizeOf33, Tryz.isAgg33⟩, trivial⟩
theorem tbt12_ok : tbt12.Ok Tryz.prog := ⟨trivial, ⟨Tryz.runUnderlying44, Tryz.sizeOf44, Tryz.isAgg44⟩, trivial⟩
theorem tbt13_ok : tbt13.Ok Tryz.prog := ⟨tbt11_ok, ⟨trivial, Tryz.sizeOf37, Tryz.isAgg37⟩, tbt12_ok⟩
theorem tbt14_ok : tbt14.Ok Tryz.prog := ⟨tbt10_ok, ⟨Tryz.runUnderlying31, Tryz.sizeOf31, Tryz.isAgg31⟩, tbt13_ok⟩
theorem tbt15_ok : tbt15.Ok Tryz.prog := ⟨tbt7_ok, ⟨Tryz.runUnderlying24, Tryz.sizeOf24, Tryz.isAgg24⟩, tbt14_ok⟩
theorem tbt16_ok : tbt16.Ok Tryz.prog := ⟨trivial, ⟨⟨_, Tryz.runUnderlying58, rfl, ⟨⟨_, Tryz.sizeOf3, rfl⟩, ⟨⟨_, Tryz.sizeOf9, rfl⟩, ⟨⟨_, Tryz.sizeOf56, rfl⟩, ⟨⟨_, Tryz.sizeOf3, rfl⟩, ⟨⟨_, Tryz.sizeOf4, rfl⟩, trivial⟩⟩⟩⟩⟩⟩, Tryz.sizeOf58, Tryz.isAgg58⟩, trivial⟩
theorem tbt17_ok : tbt17.Ok Tryz.prog := ⟨trivial, ⟨trivial, Tryz.sizeOf66, Tryz.isAgg66⟩, trivial⟩
theorem tbt18_ok : tbt18.Ok Tryz.prog := ⟨tbt16_ok, ⟨Tryz.runUnderlying60, Tryz.sizeOf60, Tryz.isAgg60⟩, tbt17_ok⟩
theorem tbt19_ok : tbt19.Ok Tryz.prog := ⟨trivial, ⟨trivial, Tryz.sizeOf72, Tryz.isAgg72⟩, trivial⟩
theorem tbt20_ok : tbt20.Ok Tryz.prog := ⟨trivial, ⟨⟨_, Tryz.runUnderlying76, rfl, ⟨⟨_, Tryz.sizeOf3, rfl⟩, ⟨⟨_, Tryz.sizeOf3, rfl⟩, ⟨⟨_, Tryz.sizeOf74, rfl⟩, trivial⟩⟩⟩⟩, Tryz.sizeOf76, Tryz.isAgg76⟩, trivial⟩
theorem tbt21_ok : tbt21.Ok Tryz.prog := ⟨tbt19_ok, ⟨Tryz.runUnderlying74, Tryz.sizeOf74, Tryz.isAgg74⟩, tbt20_ok⟩
theorem tbt22_ok : tbt22.Ok Tryz.prog := ⟨tbt18_ok, ⟨⟨_, Tryz.runUnderlying71, rfl, ⟨⟨_, Tryz.sizeOf3, rfl⟩, ⟨⟨_, Tryz.sizeOf3, rfl⟩, ⟨⟨_, Tryz.sizeOf3, rfl⟩, ⟨⟨_, Tryz.sizeOf3, rfl⟩, ⟨⟨_, Tryz.sizeOf3, rfl⟩, trivial⟩⟩⟩⟩⟩⟩, Tryz.sizeOf71, Tryz.isAgg71⟩, tbt21_ok⟩
theorem tbt23_ok : tbt23.Ok Tryz.prog := ⟨trivial, ⟨trivial, Tryz.sizeOf80, Tryz.isAgg80⟩, trivial⟩
theorem tbt24_ok : tbt24.Ok Tryz.prog := ⟨trivial, ⟨⟨_, Tryz.runUnderlying86, rfl, ⟨⟨_, Tryz.sizeOf3, rfl⟩, ⟨⟨_, Tryz.sizeOf3, rfl⟩, ⟨⟨_, Tryz.sizeOf4, rfl⟩, ⟨⟨_, Tryz.sizeOf4, rfl⟩, ⟨⟨_, Tryz.sizeOf4, rfl⟩, trivial⟩⟩⟩⟩⟩⟩, Tryz.sizeOf86, Tryz.isAgg86⟩, trivial⟩
theorem tbt25_ok : tbt25.Ok Tryz.prog := ⟨tbt23_ok, ⟨⟨_, Tryz.runUnderlying84, rfl, ⟨⟨_, Tryz.sizeOf3, rfl⟩, ⟨⟨_, Tryz.sizeOf4, rfl⟩, ⟨⟨_, Tryz.sizeOf60, rfl⟩, ⟨⟨_, Tryz.sizeOf44, rfl⟩, trivial⟩⟩⟩⟩⟩, Tryz.sizeOf84, Tryz.isAgg84⟩, tbt24_ok⟩
theorem tbt26_ok : tbt26.Ok Tryz.prog := ⟨trivial, ⟨⟨_, Tryz.runUnderlying89, rfl, ⟨⟨_, Tryz.sizeOf3, rfl⟩, ⟨⟨_, Tryz.sizeOf3, rfl⟩, ⟨⟨_, Tryz.sizeOf76, rfl⟩, ⟨⟨_, Tryz.sizeOf76, rfl⟩, ⟨⟨_, Tryz.sizeOf4, rfl⟩, ⟨⟨_, Tryz.sizeOf3, rfl⟩, ⟨⟨_, Tryz.sizeOf3, rfl⟩, ⟨⟨_, Tryz.sizeOf4, rfl⟩, ⟨⟨_, Tryz.sizeOf86, rfl⟩, ⟨⟨_, Tryz.sizeOf3, rfl⟩, ⟨⟨_, Tryz.sizeOf3, rfl⟩, ⟨⟨_, Tryz.sizeOf4, rfl⟩, ⟨⟨_, Tryz.sizeOf4, rfl⟩, ⟨⟨_, Tryz.sizeOf3, rfl⟩, ⟨⟨_, Tryz.sizeOf3, rfl⟩, ⟨⟨_, Tryz.sizeOf86, rfl⟩, ⟨⟨_, Tryz.sizeOf60, rfl⟩, ⟨⟨_, Tryz.sizeOf3, rfl⟩, ⟨⟨_, Tryz.sizeOf87, rfl⟩, trivial⟩⟩⟩⟩⟩⟩⟩⟩⟩⟩⟩⟩⟩⟩⟩⟩⟩⟩⟩⟩, Tryz.sizeOf89, Tryz.isAgg89⟩, trivial⟩
theorem tbt27_ok : tbt27.Ok Tryz.prog := ⟨trivial, ⟨⟨_, Tryz.runUnderlying93, rfl, ⟨⟨_, Tryz.sizeOf3, rfl⟩, ⟨⟨_, Tryz.sizeOf9, rfl⟩, ⟨⟨_, Tryz.sizeOf9, rfl⟩, ⟨⟨_, Tryz.sizeOf3, rfl⟩, ⟨⟨_, Tryz.sizeOf3, rfl⟩, ⟨⟨_, Tryz.sizeOf3, rfl⟩, ⟨⟨_, Tryz.sizeOf91, rfl⟩, trivial⟩⟩⟩⟩⟩⟩⟩⟩, Tryz.sizeOf93, Tryz.isAgg93⟩, trivial⟩
theorem tbt28_ok : tbt28.Ok Tryz.prog := ⟨tbt26_ok, ⟨⟨_, Tryz.runUnderlying91, rfl, ⟨⟨_, Tryz.sizeOf84, rfl⟩, ⟨⟨_, Tryz.sizeOf89, rfl⟩, trivial⟩⟩⟩, Tryz.sizeOf91, Tryz.isAgg91⟩, tbt27_ok⟩
theorem tbt29_ok : tbt29.Ok Tryz.prog := ⟨tbt25_ok, ⟨Tryz.runUnderlying87, Tryz.sizeOf87, Tryz.isAgg87⟩, tbt28_ok⟩
theorem tbt30_ok : tbt30.Ok Tryz.prog := ⟨tbt22_ok, ⟨trivial, Tryz.sizeOf77, Tryz.isAgg77⟩, tbt29_ok⟩
theorem tbt31_ok : tbt31.Ok Tryz.prog := ⟨tbt15_ok, ⟨Tryz.runUnderlying56, Tryz.sizeOf56, Tryz.isAgg56⟩, tbt30_ok⟩
theorem tbt32_ok : tbt32.Ok Tryz.prog := ⟨trivial, ⟨⟨_, Tryz.runUnderlying103, rfl, ⟨⟨_, Tryz.sizeOf3, rfl⟩, ⟨⟨_, Tryz.sizeOf4, rfl⟩, ⟨⟨_, Tryz.sizeOf3, rfl⟩, trivial⟩⟩⟩⟩, Tryz.sizeOf103, Tryz.isAgg103⟩, trivial⟩
theorem tbt33_ok : tbt33.Ok Tryz.prog := ⟨trivial, ⟨⟨_, Tryz.runUnderlying132, rfl, ⟨⟨_, Tryz.sizeOf3, rfl⟩, ⟨⟨_, Tryz.sizeOf4, rfl⟩, ⟨⟨_, Tryz.sizeOf60, rfl⟩, ⟨⟨_, Tryz.sizeOf44, rfl⟩, trivial⟩⟩⟩⟩⟩, Tryz.sizeOf132, Tryz.isAgg132⟩, trivial⟩
theorem tbt34_ok : tbt34.Ok Tryz.prog := ⟨tbt32_ok, ⟨⟨_, Tryz.runUnderlying106, rfl, ⟨⟨_, Tryz.sizeOf9, rfl⟩, ⟨⟨_, Tryz.sizeOf60, rfl⟩, ⟨⟨_, Tryz.sizeOf3, rfl⟩, trivial⟩⟩⟩⟩, Tryz.sizeOf106, Tryz.isAgg106⟩, tbt33_ok⟩
theorem tbt35_ok : tbt35.Ok Tryz.prog := ⟨trivial, ⟨⟨_, Tryz.runUnderlying135, rfl, ⟨⟨_, Tryz.sizeOf3, rfl⟩, ⟨⟨_, Tryz.sizeOf3, rfl⟩, ⟨⟨_, Tryz.sizeOf133, rfl⟩, trivial⟩⟩⟩⟩, Tryz.sizeOf135, Tryz.isAgg135⟩, trivial⟩
theorem tbt36_ok : tbt36.Ok Tryz.prog := ⟨trivial, ⟨Tryz.runUnderlying137, Tryz.sizeOf137, Tryz.isAgg137⟩, trivial⟩
theorem tbt37_ok : tbt37.Ok Tryz.prog := ⟨tbt35_ok, ⟨⟨_, Tryz.runUnderlying136, rfl, ⟨⟨_, Tryz.sizeOf3, rfl⟩, ⟨⟨_, Tryz.sizeOf3, rfl⟩, ⟨⟨_, Tryz.sizeOf4, rfl⟩, ⟨⟨_, Tryz.sizeOf4, rfl⟩, ⟨⟨_, Tryz.sizeOf4, rfl⟩, trivial⟩⟩⟩⟩⟩⟩, Tryz.sizeOf136, Tryz.isAgg136⟩, tbt36_ok⟩
theorem tbt38_ok : tbt38.Ok Tryz.prog := ⟨tbt34_ok, ⟨Tryz.runUnderlying133, Tryz.sizeOf133, Tryz.isAgg133⟩, tbt37_ok⟩
theorem tbt39_ok : tbt39.Ok Tryz.prog := ⟨trivial, ⟨⟨_, Tryz.runUnderlying141, rfl, ⟨⟨_, Tryz.sizeOf132, rfl⟩, ⟨⟨_, Tryz.sizeOf139, rfl⟩, trivial⟩⟩⟩, Tryz.sizeOf141, Tryz.isAgg141⟩, trivial⟩
theorem tbt40_ok : tbt40.Ok Tryz.prog := ⟨trivial, ⟨Tryz.runUnderlying145, Tryz.sizeOf145, Tryz.isAgg145⟩, trivial⟩
theorem tbt41_ok : tbt41.Ok Tryz.prog := ⟨tbt39_ok, ⟨⟨_, Tryz.runUnderlying143, rfl, ⟨⟨_, Tryz.sizeOf3, rfl⟩, ⟨⟨_, Tryz.sizeOf9, rfl⟩, ⟨⟨_, Tryz.sizeOf9, rfl⟩, ⟨⟨_, Tryz.sizeOf3, rfl⟩, ⟨⟨_, Tryz.sizeOf3, rfl⟩, ⟨⟨_, Tryz.sizeOf3, rfl⟩, ⟨⟨_, Tryz.sizeOf141, rfl⟩, trivial⟩⟩⟩⟩⟩⟩⟩⟩, Tryz.sizeOf143, Tryz.isAgg143⟩, tbt40_ok⟩
theorem tbt42_ok : tbt42.Ok Tryz.prog := ⟨trivial, ⟨⟨_, Tryz.runUnderlying149, rfl, ⟨⟨_, Tryz.sizeOf9, rfl⟩, ⟨⟨_, Tryz.sizeOf60, rfl⟩, ⟨⟨_, Tryz.sizeOf3, rfl⟩, trivial⟩⟩⟩⟩, Tryz.sizeOf149, Tryz.isAgg149⟩, trivial⟩
theorem tbt43_ok : tbt43.Ok Tryz.prog := ⟨trivial, ⟨trivial, Tryz.sizeOf159, Tryz.isAgg159⟩, trivial⟩
theorem tbt44_ok : tbt44.Ok Tryz.prog := ⟨tbt42_ok, ⟨Tryz.runUnderlying158, Tryz.sizeOf158, Tryz.isAgg158⟩, tbt43_ok⟩
theorem tbt45_ok : tbt45.Ok Tryz.prog := ⟨tbt41_ok, ⟨⟨_, Tryz.runUnderlying147, rfl, ⟨⟨_, Tryz.sizeOf3, rfl⟩, ⟨⟨_, Tryz.sizeOf9, rfl⟩, ⟨⟨_, Tryz.sizeOf145, rfl⟩, ⟨⟨_, Tryz.sizeOf3, rfl⟩, ⟨⟨_, Tryz.sizeOf4, rfl⟩, trivial⟩⟩⟩⟩⟩⟩, Tryz.sizeOf147, Tryz.isAgg147⟩, tbt44_ok⟩
theorem tbt46_ok : tbt46.Ok Tryz.prog := ⟨tbt38_ok, ⟨⟨_, Tryz.runUnderlying139, rfl, ⟨⟨_, Tryz.sizeOf3, rfl⟩, ⟨⟨_, Tryz.sizeOf3, rfl⟩, ⟨⟨_, Tryz.sizeOf135, rfl⟩, ⟨⟨_, Tryz.sizeOf135, rfl⟩, ⟨⟨_, Tryz.sizeOf4, rfl⟩, ⟨⟨_, Tryz.sizeOf3, rfl⟩, ⟨⟨_, Tryz.sizeOf3, rfl⟩, ⟨⟨_, Tryz.sizeOf4, rfl⟩, ⟨⟨_, Tryz.sizeOf136, rfl⟩, ⟨⟨_, Tryz.sizeOf3, rfl⟩, ⟨⟨_, Tryz.sizeOf3, rfl⟩, ⟨⟨_, Tryz.sizeOf4, rfl⟩, ⟨⟨_, Tryz.sizeOf4, rfl⟩, ⟨⟨_, Tryz.sizeOf3, rfl⟩, ⟨⟨_, Tryz.sizeOf3, rfl⟩, ⟨⟨_, Tryz.sizeOf136, rfl⟩, ⟨⟨_, Tryz.sizeOf60, rfl⟩, ⟨⟨_, Tryz.sizeOf3, rfl⟩, ⟨⟨_, Tryz.sizeOf137, rfl⟩, trivial⟩⟩⟩⟩⟩⟩⟩⟩⟩⟩⟩⟩⟩⟩⟩⟩⟩⟩⟩⟩, Tryz.sizeOf139, Tryz.isAgg139⟩, tbt45_ok⟩
theorem tbt47_ok : tbt47.Ok Tryz.prog := ⟨trivial, ⟨⟨_, Tryz.runUnderlying164, rfl, ⟨⟨_, Tryz.sizeOf3, rfl⟩, ⟨⟨_, Tryz.sizeOf86, rfl⟩, trivial⟩⟩⟩, Tryz.sizeOf164, Tryz.isAgg164⟩, trivial⟩
theorem tbt48_ok : tbt48.Ok Tryz.prog := ⟨trivial, ⟨⟨_, Tryz.runUnderlying181, rfl, ⟨⟨_, Tryz.sizeOf74, rfl⟩, trivial⟩⟩, Tryz.sizeOf181, Tryz.isAgg181⟩, trivial⟩
theorem tbt49_ok : tbt49.Ok Tryz.prog := ⟨tbt47_ok, ⟨trivial, Tryz.sizeOf168, Tryz.isAgg168⟩, tbt48_ok⟩
theorem tbt50_ok : tbt50.Ok Tryz.prog := ⟨trivial, ⟨trivial, Tryz.sizeOf210, Tryz.isAgg210⟩, trivial⟩
theorem tbt51_ok : tbt51.Ok Tryz.prog := ⟨trivial, ⟨Tryz.runUnderlying233, Tryz.sizeOf233, Tryz.isAgg233⟩, trivial⟩
theorem tbt52_ok : tbt52.Ok Tryz.prog := ⟨tbt50_ok, ⟨⟨_, Tryz.runUnderlying230, rfl, ⟨⟨_, Tryz.sizeOf3, rfl⟩, ⟨⟨_, Tryz.sizeOf4, rfl⟩, ⟨⟨_, Tryz.sizeOf3, rfl⟩, trivial⟩⟩⟩⟩, Tryz.sizeOf230, Tryz.isAgg230⟩, tbt51_ok⟩
theorem tbt53_ok : tbt53.Ok Tryz.prog := ⟨tbt49_ok, ⟨trivial, Tryz.sizeOf206, Tryz.isAgg206⟩, tbt52_ok⟩
theorem tbt54_ok : tbt54.Ok Tryz.prog := ⟨trivial, ⟨Tryz.runUnderlying244, Tryz.sizeOf244, Tryz.isAgg244⟩, trivial⟩
theorem tbt55_ok : tbt55.Ok Tryz.prog := ⟨trivial, ⟨trivial, Tryz.sizeOf272, Tryz.isAgg272⟩, trivial⟩
theorem tbt56_ok : tbt56.Ok Tryz.prog := ⟨tbt54_ok, ⟨trivial, Tryz.sizeOf263, Tryz.isAgg263⟩, tbt55_ok⟩
theorem tbt57_ok : tbt57.Ok Tryz.prog := ⟨trivial, ⟨⟨_, Tryz.runUnderlying285, rfl, ⟨⟨_, Tryz.sizeOf133, rfl⟩, trivial⟩⟩, Tryz.sizeOf285, Tryz.isAgg285⟩, trivial⟩
theorem tbt58_ok : tbt58.Ok Tryz.prog := ⟨tbt57_ok, ⟨⟨_, Tryz.runUnderlying308, rfl, ⟨⟨_, Tryz.sizeOf3, rfl⟩, ⟨⟨_, Tryz.sizeOf136, rfl⟩, trivial⟩⟩⟩, Tryz.sizeOf308, Tryz.isAgg308⟩, trivial⟩
theorem tbt59_ok : tbt59.Ok Tryz.prog := ⟨tbt56_ok, ⟨trivial, Tryz.sizeOf273, Tryz.isAgg273⟩, tbt58_ok⟩
theorem tbt60_ok : tbt60.Ok Tryz.prog := ⟨tbt53_ok, ⟨trivial, Tryz.sizeOf239, Tryz.isAgg239⟩, tbt59_ok⟩
theorem tbt61_ok : tbt61.Ok Tryz.prog := ⟨tbt46_ok, ⟨trivial, Tryz.sizeOf162, Tryz.isAgg162⟩, tbt60_ok⟩
theorem tbt62_ok : tbt62.Ok Tryz.prog := ⟨tbt31_ok, ⟨trivial, Tryz.sizeOf94, Tryz.isAgg94⟩, tbt61_ok⟩
theorem tbk : TT.Ok Tryz.prog tbt62 := tbt62_ok
instance tbkI : TbOk Tryz.prog tbt62 := ⟨tbk⟩
instance mxI : Mx Tryz.prog := ⟨by kernel_rfl⟩
theorem mixed : Tryz.prog.follows .mixedOrders = true := by kernel_rfl
instance boolPW {n lo hi : Int} : BoolP (within n lo hi) (lo ≤ n ∧ n ≤ hi) (¬ (lo ≤ n ∧ n ≤ hi)) := ⟨within_iff.1, within_not.1⟩
theorem inf3 : Tryz.prog.info? 3 = some Tryz.t3 := by kernel_rfl
theorem inf5 : Tryz.prog.info? 5 = some Tryz.t5 := by kernel_rfl
theorem inf103 : Tryz.prog.info? 103 = some Tryz.t103 := by kernel_rfl
theorem inf164 : Tryz.prog.info? 164 = some Tryz.t164 := by kernel_rfl
theorem k0_ (n lo hi : Int) (w : World) :
    Calls Tryz.prog 58 #[i64 n, i64 lo, i64 hi] w fun e w' => e = .returned (.bool (within n lo hi)) ∧ St w [] [] w' := by
 refine enter 15 Tryz.func58 rfl Tryz.ntmps58 rfl rfl ?_
 have hs1 := St.init w
 refine WC.r1 hs1 [] rfl (WC.sr (WL.r 4 hs1 [] rfl (WL.pA tbk 3 Acts.nil hs1 [] rfl rfl rfl rfl (fun g_ => trivial) (WL.r 1 hs1 [] rfl (WL.nil (WC.ret (retV1 rfl (resV.tmp rfl) ?_)))))))
 refine ⟨congrArg Ending.returned ?_, hs1.nil⟩
 rfl
theorem k1_ (n : Int) (w : World) :
    Calls Tryz.prog 59 #[i64 n] w fun e w' => e = .returned (.bool (isId n)) ∧ St w [] [] w' := by
 refine enter 5 Tryz.func59 rfl Tryz.ntmps59 rfl rfl ?_
 have hs1 := St.init w
 refine WC.r1 hs1 [] rfl (WC.sr (WL.r 1 hs1 [] rfl (WL.cl Tryz.call58 rfl (k0_ _ _ _ _) ?_)))
 rintro _ whs2 ⟨rfl, hs2⟩
 replace hs2 := hs1.call0 hs2
 refine ⟨_, rfl, WL.r 1 hs2 [] rfl (WL.nil (WC.ret (rtv rfl rfl hs2 ?_)))⟩
 rfl
theorem k2_ (s : ByteArray) (w : World) :
    Calls Tryz.prog 176 #[.string s] w fun e w' => e = .returned (.bool (isCmd s)) ∧ St w [] [] w' := by
 refine enter 6 Tryz.func176 rfl Tryz.ntmps176 rfl rfl ?_
 have hs1 := St.init w
 refine WC.r1 hs1 [] rfl (WC.r1 hs1 [] rfl (WC.ret (rtv rfl rfl hs1 ?_)))
 simp [isCmd]; omega
theorem k3_ (n : Int) (w : World) :
    Calls Tryz.prog 268 #[i64 n] w fun e w' => e = .returned (.bool (shows n)) ∧ St w [] [] w' := by
 refine enter 14 Tryz.func268 rfl Tryz.ntmps268 rfl rfl ?_
 have hs1 := St.init w
 refine WC.r1 hs1 [] rfl (WC.sr (WL.r 1 hs1 [] rfl (WL.cl Tryz.call58 rfl (k0_ _ _ _ _) ?_)))
 rintro _ whs2 ⟨rfl, hs2⟩
 replace hs2 := hs1.call0 hs2
 refine ⟨_, rfl, WL.r 1 hs2 [] rfl ?_⟩
 apply WL.gO 7 Acts.nil hs2 rfl
 ·intro g3 J4
  have qg3 := g3
  try simp only [bf, within_iff, within_not] at qg3
  refine WL.runA tbk 1 (Acts.nil.cons (j := 2) rfl g3) hs2 [] rfl trivial (WL.call (wantF rfl g3) rfl rfl (Run.call Tryz.call58 rfl rfl rfl) (k0_ _ _ _ _) ?_)
  rintro _ whs5 ⟨rfl, hs5⟩
  replace hs5 := hs2.call0 hs5
  refine ⟨_, rfl, WL.runA tbk 1 (Acts.nil.cons (j := 2) rfl g3) hs5 [] rfl trivial ?_⟩
  apply WL.gA 3 (Acts.nil.cons (j := 2) rfl g3) hs5 rfl
  ·intro g6 J7
   have qg6 := g6
   try simp only [bf, within_iff, within_not] at qg6
   refine WL.runA tbk 1 (Acts.nil.cons (j := 5) rfl g6) hs5 [] rfl trivial (WL.call (wantT rfl g6) rfl rfl (Run.call Tryz.call58 rfl rfl rfl) (k0_ _ _ _ _) ?_)
   rintro _ whs8 ⟨rfl, hs8⟩
   replace hs8 := hs5.call0 hs8
   refine ⟨_, rfl, WL.runA tbk 1 (Acts.nil.cons (j := 5) rfl g6) hs8 [] rfl trivial (WL.eA 3 (Acts.nil.cons (j := 2) rfl g3) J7 hs8 g6 rfl rfl)⟩
  intro _ hs9
  exact WL.eO 4 Acts.nil J4 hs9 g3 rfl rfl
 intro _ hs10
 refine WL.r 1 hs10 [] rfl (WL.nil (WC.ret (rtv rfl rfl hs10 ?_)))
 rfl
theorem k4_ (A_a : Option Addr) (n_a c_a : Nat) (a : List UInt8) (left : Int) (w : World) (f_a : SlF encB w A_a n_a a) (h1 : 0 ≤ left) (h2 : left ≤ 1048576) (h3 : n_a ≤ 9223372036854775807) :
    Calls Tryz.prog 243 #[.slice A_a n_a c_a, i64 left] w fun e w' => e = .returned (.int .i64 (szR left n_a)) ∧ St w [] [] w' := by
 refine enter 12 Tryz.func243 rfl Tryz.ntmps243 rfl rfl ?_
 have hs1 := St.init w
 refine WC.r1 hs1 [] rfl (WC.r1 hs1 [] rfl (WC.seq (fun K2 hK2 => WC.r1 hs1 [] rfl ?_)))
 refine WC.cD rfl (fun qh3 => ?_) (fun qh3 => ?_)
 ·refine WC.r1 hs1 [] rfl (WC.ret (tkR ?_))
  clear hK2
  refine rtv rfl rfl hs1 ?_
  simp only [szR]; rw [if_neg (by omega)]
 refine WC.skip (hK2 _ _ (WC.r1 hs1 [] rfl (WC.ret (rtv rfl rfl hs1 ?_))))
 simp only [szR]; rw [if_pos (by omega)]
theorem k5_ (A_a : Option Addr) (n_a c_a : Nat) (a : List UInt8) (w : World) (f_a : SlF encB w A_a n_a a) (hn : n_a ≤ 1099511627776) :
    Calls Tryz.prog 34 #[.slice A_a n_a c_a] w fun e w' => ∃ A c L1, e = .returned (.slice A (a).length c) ∧ St w [] L1 w' ∧ OwnF encB 5 (.slice A (a).length c) (a) L1 := by
 refine enter 22 Tryz.func34 rfl Tryz.ntmps34 rfl rfl ?_
 have hs1 := St.init w
 refine WC.r1 hs1 [] rfl (WC.sr (WL.r 2 hs1 [] rfl (WL.makeF (F := encB) hs1 Tryz.underlying44 inf5 rfl rfl rfl rfl rfl rfl rfl rfl rfl ?_ ?_ (fun A5 c6 L2 whs3 hs3 ho4 => ?_))))
 · have e_ : Tryz.t5.bytes = 1 := rfl
   rw [e_]; omega
 · omega
 refine WL.r 1 hs3 [] rfl (WL.nil (WC.seq (fun K7 hK7 => WC.r1 hs3 [] rfl (WC.block ?_))))
 refine WC.lO [0, 2] rfl hs3 (fun k_ f L_ => ∃ (i : Nat) (A8 : Option Addr) (c9 : Nat), k_ = n_a - i ∧ (i ≤ n_a) ∧ OwnF encB 5 (.slice A8 (n_a) c9) (fillG encB a i) L_ ∧ Sub [(3, .slice A8 (n_a) c9), (4, .int .i64 i)] f) (((fun (i : Nat) => n_a - i) (0))) ?_ ?_
 ·refine ⟨0, _, _, rfl, ?_, (fillG_zero f_a.len ▸ ho4), ⟨rfl, rfl, trivial⟩⟩
  · exact Nat.zero_le _
 clear hs3
 rintro _ f w L10 ⟨i, A8, c9, rfl, p0, ho11, hG⟩ hF hs12
 refine WC.sub _ (hG.app hF) ?_
 clear hG hF
 refine WC.seq (fun K13 hK13 => WC.r1 hs12 [] rfl ?_)
 refine WC.cq rfl (fun h14 qh14 => ?_) (fun h14 qh14 => ?_)
 ·refine WC.skip (hK13 _ _ (WC.seq (fun K15 hK15 => WC.block (WC.region (WL.r 4 hs12 [] rfl ?_)))))
  refine WL.val rfl rfl rfl (Run.idxN Tryz.runUnderlying44 Tryz.sizeOf5 rfl rfl rfl ?_ ?_ ?_) ?_
  · exact SlF.some_ (SlF.st0 f_a hs12)
  · omega
  · omega
  refine WL.val rfl rfl rfl (Run.load Tryz.isAgg5 rfl rfl (SlF.one1 (SlF.st0 f_a hs12) ?_ rfl)) ?_
  · omega
  refine WL.val rfl rfl rfl (Run.idxN Tryz.runUnderlying44 Tryz.sizeOf5 rfl rfl rfl ?_ ?_ ?_) ?_
  · exact SlF.some_ (SlF.ofOwn ho11 (hs12.ow L10))
  · omega
  · omega
  refine WL.storeF1 (x' := _) hs12 ho11 Tryz.sizeOf5 rfl rfl rfl rfl rfl rfl rfl rfl rfl ?_ rfl (fun L16 whs17 hs17 ho18 _ => ?_)
  · omega
  refine WL.nil (hK15 _ _ (WC.region (WL.r 3 hs17 [] rfl (WL.nil (tkN ?_)))))
  rw [fillG_set (i := i) (by rw [f_a.len]; omega) (by simp) (by simp)] at ho18
  refine ⟨sbF rfl, _, hs17, _, ?_, i + 1, _, _, rfl, ?_, ho18, ⟨rfl, rfl, trivial⟩⟩
  · omega
  · omega
 refine WC.exit (hK7 _ _ (WC.r1 hs12 [] rfl (WC.ret (retV1 rfl (resV.tmp rfl) ?_))))
 have hx_ := OwnF.eqOf (xs := a) ho11 (fillG_full (by rw [f_a.len]; omega))
 have hy_ := ho11
 rw [hx_] at hy_
 obtain ⟨A_, c_, hz_⟩ := hy_.shape
 exact ⟨A_, c_, _, congrArg Ending.returned hz_, (St.keep1 hs12), hz_ ▸ hy_⟩
theorem k6_ (A_a : Option Addr) (n_a c_a : Nat) (a : List UInt8) (A_b : Option Addr) (n_b c_b : Nat) (b : List UInt8) (w : World) (f_a : SlF encB w A_a n_a a) (f_b : SlF encB w A_b n_b b) (hn : n_a ≤ 1099511627776) (hab : a = b) :
    Calls Tryz.prog 26 #[.slice A_a n_a c_a, .slice A_b n_b c_b] w fun e w' => e = .returned (.bool true) ∧ St w [] [] w' := by
 subst hab
 obtain rfl : n_a = n_b := f_a.len.symm.trans f_b.len
 refine enter 26 Tryz.func26 rfl Tryz.ntmps26 rfl rfl ?_
 have hs1 := St.init w
 refine WC.r1 hs1 [] rfl (WC.seq (fun K2 hK2 => WC.r1 hs1 [] rfl (WC.condF rfl (by simp) (WC.skip (hK2 _ _ (WC.seq (fun K4 hK4 => WC.r1 hs1 [] rfl ?_)))))))
 refine WC.block (WC.lS [0, 1, 10] rfl hs1 (fun k_ f w' => ∃ (i : Nat), k_ = n_a - i ∧ (i ≤ n_a) ∧ Sub [(5, .int .i64 i)] f) ((fun (i : Nat) => n_a - i) (0)) ?_ ?_)
 ·refine ⟨0, rfl, ?_, ⟨rfl, trivial⟩⟩
  · exact Nat.zero_le _
 clear hs1
 rintro _ f w ⟨i, rfl, p0, hG⟩ hF hs5
 refine WC.sub _ (hG.app hF) ?_
 clear hG hF
 refine WC.seq (fun K6 hK6 => WC.r1 hs5 [] rfl ?_)
 refine WC.cD rfl (fun qh7 => ?_) (fun qh7 => ?_)
 ·refine WC.skip (hK6 _ _ (WC.seq (fun K8 hK8 => WC.block (WC.sq1 hs5 (WQ.r 2 [] rfl ?_)))))
  refine WQ.val rfl rfl rfl (fun w_ hs_ => (Run.idxN Tryz.runUnderlying44 Tryz.sizeOf5 rfl rfl rfl ?_ ?_ ?_)) ?_
  · exact SlF.some_ (SlF.st0 f_a (hs_ : St _ _ _ _))
  · omega
  · omega
  refine WQ.val rfl rfl rfl (fun w_ hs_ => (Run.load Tryz.isAgg5 rfl rfl (SlF.one1 (SlF.st0 f_a (hs_ : St _ _ _ _)) ?_ rfl))) ?_
  · omega
  refine WQ.r 2 [] rfl ?_
  refine WQ.val rfl rfl rfl (fun w_ hs_ => (Run.idxN Tryz.runUnderlying44 Tryz.sizeOf5 rfl rfl rfl ?_ ?_ ?_)) ?_
  · exact SlF.some_ (SlF.st0 f_b (hs_ : St _ _ _ _))
  · omega
  · omega
  refine WQ.val rfl rfl rfl (fun w_ hs_ => (Run.load Tryz.isAgg5 rfl rfl (SlF.one1 (SlF.st0 f_b (hs_ : St _ _ _ _)) ?_ rfl))) ?_
  · omega
  refine WQ.r 1 [] rfl (WQ.nil (fun _ (hs9 : St _ _ _ _) => WC.condF rfl (by simp) (WC.skip (hK8 _ _ (WC.region (WL.r 3 hs9 [] rfl (WL.nil ?_)))))))
  refine tkN (⟨sbF rfl, hs9, _, ?_, i + 1, rfl, ?_, ⟨rfl, trivial⟩⟩)
  · omega
  · omega
 refine WC.exit (hK4 _ _ (WC.r1 hs5 [] rfl (WC.ret (rtv rfl rfl hs5 ?_))))
 rfl
theorem k7_ (a_Fg : Int) (a_Bg : Int) (a_Bold : Bool) (a_Under : Bool) (a_Turn : Bool) (w : World) :
    Calls Tryz.prog 247 #[.agg #[i64 a_Fg, i64 a_Bg, .bool a_Bold, .bool a_Under, .bool a_Turn]] w fun e w' => e = .returned (.agg #[i64 a_Fg, i64 a_Bg, .bool a_Bold, .bool a_Under, .bool a_Turn]) ∧ St w [] [] w' := by
 refine enter 20 Tryz.func247 rfl Tryz.ntmps247 rfl rfl ?_
 have hs1 := St.init w
 refine WC.sr (WL.bx hs1 rfl (fun b2 _ hs3 => WL.al hs3 Tryz.zeroValue86 rfl rfl (fun b4 _ hs5 => WL.nil (WC.sr (WL.al hs5 Tryz.zeroValue86 rfl rfl (fun b6 _ hs7 => WL.nil (WC.sr ?_)))))))
 refine WL.r 3 hs7 [2] rfl (WL.st tbk hs7 0 rfl rfl (fun _ hs8 => WL.nil (WC.sr (WL.r 3 hs8 [2] rfl (WL.st tbk hs8 0 rfl rfl (fun _ hs9 => WL.nil (WC.sr ?_)))))))
 refine WL.r 3 hs9 [2] rfl (WL.st tbk hs9 0 rfl rfl (fun _ hs10 => WL.nil (WC.sr (WL.r 3 hs10 [2] rfl (WL.st tbk hs10 0 rfl rfl (fun _ hs11 => WL.nil (WC.sr ?_)))))))
 refine WL.r 3 hs11 [2] rfl (WL.st tbk hs11 0 rfl rfl (fun _ hs12 => WL.nil (WC.sr (WL.r 1 hs12 [0] rfl (WL.st tbk hs12 1 rfl rfl (fun _ hs13 => WL.nil (WC.ret ?_)))))))
 refine retV1 rfl (resV.cellA tbk hs13 1 rfl rfl rfl rfl) (⟨congrArg Ending.returned ?_, hs13.nil⟩)
 rfl
theorem k8_ (a_R : Int) (a_A_Fg : Int) (a_A_Bg : Int) (a_A_Bold : Bool) (a_A_Under : Bool) (a_A_Turn : Bool) (w : World) :
    Calls Tryz.prog 299 #[.agg #[i64 a_R, i64 a_A_Fg, i64 a_A_Bg, .bool a_A_Bold, .bool a_A_Under, .bool a_A_Turn]] w fun e w' => e = .returned (.agg #[i64 a_R, i64 a_A_Fg, i64 a_A_Bg, .bool a_A_Bold, .bool a_A_Under, .bool a_A_Turn]) ∧ St w [] [] w' := by
 refine enter 12 Tryz.func299 rfl Tryz.ntmps299 rfl rfl ?_
 have hs1 := St.init w
 refine WC.sr (WL.bx hs1 rfl (fun b2 _ hs3 => WL.al hs3 Tryz.zeroValue164 rfl rfl (fun b4 _ hs5 => WL.nil (WC.sr (WL.al hs5 Tryz.zeroValue164 rfl rfl (fun b6 _ hs7 => WL.nil (WC.sr ?_)))))))
 refine WL.r 3 hs7 [2] rfl (WL.st tbk hs7 0 rfl rfl (fun _ hs8 => WL.nil (WC.sr (WL.r 2 hs8 [2] rfl (WL.cl Tryz.call247 rfl (k7_ _ _ _ _ _ _) ?_)))))
 rintro _ whs9 ⟨rfl, hs9⟩
 replace hs9 := hs8.call0 hs9
 refine ⟨_, rfl, WL.r 1 hs9 [] rfl (WL.st tbk hs9 0 rfl rfl (fun _ hs10 => WL.nil (WC.sr (WL.r 1 hs10 [0] rfl (WL.st tbk hs10 1 rfl rfl (fun _ hs11 => WL.nil ?_))))))⟩
 refine WC.ret (retV1 rfl (resV.cellA tbk hs11 1 rfl rfl rfl rfl) (⟨congrArg Ending.returned ?_, hs11.nil⟩))
 rfl
theorem k9_ (a_Fg : Int) (a_Bg : Int) (a_Bold : Bool) (a_Under : Bool) (a_Turn : Bool) (b_Fg : Int) (b_Bg : Int) (b_Bold : Bool) (b_Under : Bool) (b_Turn : Bool) (w : World) (hab : (⟨a_Fg, a_Bg, a_Bold, a_Under, a_Turn⟩ : AttrD) = (⟨b_Fg, b_Bg, b_Bold, b_Under, b_Turn⟩ : AttrD)) :
    Calls Tryz.prog 261 #[.agg #[i64 a_Fg, i64 a_Bg, .bool a_Bold, .bool a_Under, .bool a_Turn], .agg #[i64 b_Fg, i64 b_Bg, .bool b_Bold, .bool b_Under, .bool b_Turn]] w fun e w' => e = .returned (.bool true) ∧ St w [] [] w' := by
 cases hab
 refine enter 30 Tryz.func261 rfl Tryz.ntmps261 rfl rfl ?_
 have hs1 := St.init w
 refine WC.sr (WL.bx hs1 rfl (fun b2 _ hs3 => WL.bx hs3 rfl (fun b4 _ hs5 => WL.r 1 hs5 [] rfl (WL.nil (WC.seq (fun K6 hK6 => WC.r1 hs5 [1, 0] rfl (WC.condF rfl (by simp) ?_)))))))
 refine WC.skip (hK6 _ _ (WC.seq (fun K8 hK8 => WC.r1 hs5 [1, 0] rfl (WC.condF rfl (by simp) (WC.skip (hK8 _ _ (WC.seq (fun K10 hK10 => ?_))))))))
 refine WC.r1 hs5 [1, 0] rfl (WC.condF rfl (by simp) (WC.skip (hK10 _ _ (WC.seq (fun K12 hK12 => WC.r1 hs5 [1, 0] rfl (WC.condF rfl (by simp) (WC.skip ?_)))))))
 refine hK12 _ _ (WC.seq (fun K14 hK14 => WC.r1 hs5 [1, 0] rfl (WC.condF rfl (by simp) (WC.skip (hK14 _ _ (WC.r1 hs5 [] rfl (WC.ret ?_)))))))
 refine rtv rfl rfl hs5 ?_
 rfl
theorem k10_ (a_R : Int) (a_A_Fg : Int) (a_A_Bg : Int) (a_A_Bold : Bool) (a_A_Under : Bool) (a_A_Turn : Bool) (b_R : Int) (b_A_Fg : Int) (b_A_Bg : Int) (b_A_Bold : Bool) (b_A_Under : Bool) (b_A_Turn : Bool) (w : World) (hab : (⟨a_R, ⟨a_A_Fg, a_A_Bg, a_A_Bold, a_A_Under, a_A_Turn⟩⟩ : CellD) = (⟨b_R, ⟨b_A_Fg, b_A_Bg, b_A_Bold, b_A_Under, b_A_Turn⟩⟩ : CellD)) :
    Calls Tryz.prog 301 #[.agg #[i64 a_R, i64 a_A_Fg, i64 a_A_Bg, .bool a_A_Bold, .bool a_A_Under, .bool a_A_Turn], .agg #[i64 b_R, i64 b_A_Fg, i64 b_A_Bg, .bool b_A_Bold, .bool b_A_Under, .bool b_A_Turn]] w fun e w' => e = .returned (.bool true) ∧ St w [] [] w' := by
 cases hab
 refine enter 16 Tryz.func301 rfl Tryz.ntmps301 rfl rfl ?_
 have hs1 := St.init w
 refine WC.sr (WL.bx hs1 rfl (fun b2 _ hs3 => WL.bx hs3 rfl (fun b4 _ hs5 => WL.r 1 hs5 [] rfl (WL.nil (WC.seq (fun K6 hK6 => WC.r1 hs5 [1, 0] rfl (WC.condF rfl (by simp) ?_)))))))
 refine WC.skip (hK6 _ _ (WC.seq (fun K8 hK8 => WC.sr (WL.r 4 hs5 [1, 0] rfl ?_))))
 refine WL.cl Tryz.call261 rfl (k9_ _ _ _ _ _ _ _ _ _ _ _ ?_) ?_
 · first | assumption | rfl | omega
 rintro _ whs9 ⟨rfl, hs9⟩
 replace hs9 := hs5.call0 hs9
 refine ⟨_, rfl, WL.r 1 hs9 [] rfl (WL.nil (WC.condF rfl (by simp) (WC.skip (hK8 _ _ (WC.r1 hs9 [] rfl (WC.ret ?_))))))⟩
 refine rtv rfl rfl hs9 ?_
 rfl
theorem k11_ (A_a : Option Addr) (n_a c_a : Nat) (a : List CellD) (w : World) (f_a : SlF encCell w A_a n_a a) (hn : n_a ≤ 1099511627776) :
    Calls Tryz.prog 279 #[.slice A_a n_a c_a] w fun e w' => ∃ A c L1, e = .returned (.slice A (a).length c) ∧ St w [] L1 w' ∧ OwnF encCell 164 (.slice A (a).length c) (a) L1 := by
 refine enter 23 Tryz.func279 rfl Tryz.ntmps279 rfl rfl ?_
 have hs1 := St.init w
 refine WC.r1 hs1 [] rfl (WC.sr (WL.r 2 hs1 [] rfl (WL.makeF (F := encCell) hs1 Tryz.underlying74 inf164 rfl rfl rfl rfl rfl rfl rfl rfl rfl ?_ ?_ (fun A5 c6 L2 whs3 hs3 ho4 => ?_))))
 · have e_ : Tryz.t164.bytes = 32 := rfl
   rw [e_]; omega
 · omega
 refine WL.r 1 hs3 [] rfl (WL.nil (WC.seq (fun K7 hK7 => WC.r1 hs3 [] rfl (WC.block ?_))))
 refine WC.lO [0, 2] rfl hs3 (fun k_ f L_ => ∃ (i : Nat) (A8 : Option Addr) (c9 : Nat), k_ = n_a - i ∧ (i ≤ n_a) ∧ OwnF encCell 164 (.slice A8 (n_a) c9) (fillG encCell a i) L_ ∧ Sub [(3, .slice A8 (n_a) c9), (4, .int .i64 i)] f) (((fun (i : Nat) => n_a - i) (0))) ?_ ?_
 ·refine ⟨0, _, _, rfl, ?_, (fillG_zero f_a.len ▸ ho4), ⟨rfl, rfl, trivial⟩⟩
  · exact Nat.zero_le _
 clear hs3
 rintro _ f w L10 ⟨i, A8, c9, rfl, p0, ho11, hG⟩ hF hs12
 refine WC.sub _ (hG.app hF) ?_
 clear hG hF
 refine WC.seq (fun K13 hK13 => WC.r1 hs12 [] rfl ?_)
 refine WC.cq rfl (fun h14 qh14 => ?_) (fun h14 qh14 => ?_)
 ·refine WC.skip (hK13 _ _ (WC.seq (fun K15 hK15 => WC.block (WC.region (WL.r 4 hs12 [] rfl ?_)))))
  refine WL.val rfl rfl rfl (Run.idxN Tryz.runUnderlying133 Tryz.sizeOf308 rfl rfl rfl ?_ ?_ ?_) ?_
  · exact SlF.some_ (SlF.st0 f_a hs12)
  · omega
  · omega
  refine WL.val rfl rfl rfl (Run.loadA Tryz.isAgg308 Tryz.sizeOf308 rfl rfl (SlF.whole (SlF.st0 f_a hs12) ?_)) ?_
  · omega
  refine WL.cl Tryz.call299 rfl (k8_ _ _ _ _ _ _ _) ?_
  rintro _ whs16 ⟨rfl, hs16⟩
  replace hs16 := hs12.call0 hs16
  refine ⟨_, rfl, WL.val rfl rfl rfl (Run.idxN Tryz.runUnderlying74 Tryz.sizeOf164 rfl rfl rfl ?_ ?_ ?_) ?_⟩
  · exact SlF.some_ (SlF.ofOwn ho11 (hs16.ow L10))
  · omega
  · omega
  refine WL.storeF1 (x' := _) hs16 ho11 Tryz.sizeOf164 rfl rfl rfl rfl rfl rfl rfl rfl rfl ?_ rfl (fun L17 whs18 hs18 ho19 _ => ?_)
  · omega
  refine WL.nil (hK15 _ _ (WC.region (WL.r 3 hs18 [] rfl (WL.nil (tkN ?_)))))
  rw [fillG_set (i := i) (by rw [f_a.len]; omega) (by simp) (by simp)] at ho19
  refine ⟨sbF rfl, _, hs18, _, ?_, i + 1, _, _, rfl, ?_, ho19, ⟨rfl, rfl, trivial⟩⟩
  · omega
  · omega
 refine WC.exit (hK7 _ _ (WC.r1 hs12 [] rfl (WC.ret (retV1 rfl (resV.tmp rfl) ?_))))
 have hx_ := OwnF.eqOf (xs := a) ho11 (fillG_full (by rw [f_a.len]; omega))
 have hy_ := ho11
 rw [hx_] at hy_
 obtain ⟨A_, c_, hz_⟩ := hy_.shape
 exact ⟨A_, c_, _, congrArg Ending.returned hz_, (St.keep1 hs12), hz_ ▸ hy_⟩
theorem k12_ (A_a : Option Addr) (n_a c_a : Nat) (a : List CellD) (A_b : Option Addr) (n_b c_b : Nat) (b : List CellD) (w : World) (f_a : SlF encCell w A_a n_a a) (f_b : SlF encCell w A_b n_b b) (hn : n_a ≤ 1099511627776) (hab : a = b) :
    Calls Tryz.prog 287 #[.slice A_a n_a c_a, .slice A_b n_b c_b] w fun e w' => e = .returned (.bool true) ∧ St w [] [] w' := by
 subst hab
 obtain rfl : n_a = n_b := f_a.len.symm.trans f_b.len
 refine enter 27 Tryz.func287 rfl Tryz.ntmps287 rfl rfl ?_
 have hs1 := St.init w
 refine WC.r1 hs1 [] rfl (WC.seq (fun K2 hK2 => WC.r1 hs1 [] rfl (WC.condF rfl (by simp) (WC.skip (hK2 _ _ (WC.seq (fun K4 hK4 => WC.r1 hs1 [] rfl ?_)))))))
 refine WC.block (WC.lS [0, 1, 10] rfl hs1 (fun k_ f w' => ∃ (i : Nat), k_ = n_a - i ∧ (i ≤ n_a) ∧ Sub [(5, .int .i64 i)] f) ((fun (i : Nat) => n_a - i) (0)) ?_ ?_)
 ·refine ⟨0, rfl, ?_, ⟨rfl, trivial⟩⟩
  · exact Nat.zero_le _
 clear hs1
 rintro _ f w ⟨i, rfl, p0, hG⟩ hF hs5
 refine WC.sub _ (hG.app hF) ?_
 clear hG hF
 refine WC.seq (fun K6 hK6 => WC.r1 hs5 [] rfl ?_)
 refine WC.cD rfl (fun qh7 => ?_) (fun qh7 => ?_)
 ·refine WC.skip (hK6 _ _ (WC.seq (fun K8 hK8 => WC.block (WC.sq1 hs5 (WQ.r 2 [] rfl ?_)))))
  refine WQ.val rfl rfl rfl (fun w_ hs_ => (Run.idxN Tryz.runUnderlying74 Tryz.sizeOf164 rfl rfl rfl ?_ ?_ ?_)) ?_
  · exact SlF.some_ (SlF.st0 f_a (hs_ : St _ _ _ _))
  · omega
  · omega
  refine WQ.val rfl rfl rfl (fun w_ hs_ => (Run.loadA Tryz.isAgg164 Tryz.sizeOf164 rfl rfl (SlF.whole (SlF.st0 f_a (hs_ : St _ _ _ _)) ?_))) ?_
  · omega
  refine WQ.r 2 [] rfl ?_
  refine WQ.val rfl rfl rfl (fun w_ hs_ => (Run.idxN Tryz.runUnderlying74 Tryz.sizeOf164 rfl rfl rfl ?_ ?_ ?_)) ?_
  · exact SlF.some_ (SlF.st0 f_b (hs_ : St _ _ _ _))
  · omega
  · omega
  refine WQ.val rfl rfl rfl (fun w_ hs_ => (Run.loadA Tryz.isAgg164 Tryz.sizeOf164 rfl rfl (SlF.whole (SlF.st0 f_b (hs_ : St _ _ _ _)) ?_))) ?_
  · omega
  refine WQ.call rfl rfl rfl (fun w_ hs_ => (Run.call Tryz.call301 rfl rfl rfl)) (fun w_ hs_ => (k10_ _ _ _ _ _ _ _ _ _ _ _ _ _ ?_).mono fun e_ w_ h_ => ⟨h_.1, (hs_ : St _ _ _ _).call0 h_.2⟩) ?_
  · first | assumption | rfl | omega
  refine WQ.r 1 [] rfl (WQ.nil (fun _ (hs9 : St _ _ _ _) => WC.condF rfl (by simp) (WC.skip (hK8 _ _ (WC.region (WL.r 3 hs9 [] rfl (WL.nil ?_)))))))
  refine tkN (⟨sbF rfl, hs9, _, ?_, i + 1, rfl, ?_, ⟨rfl, trivial⟩⟩)
  · omega
  · omega
 refine WC.exit (hK4 _ _ (WC.r1 hs5 [] rfl (WC.ret (rtv rfl rfl hs5 ?_))))
 rfl
theorem k13_ (A_a : Option Addr) (n_a c_a : Nat) (a : List CellD) (left : Int) (w : World) (f_a : SlF encCell w A_a n_a a) (h1 : 0 ≤ left) (h2 : left ≤ 1048576) (h3 : n_a ≤ 9223372036854775807) :
    Calls Tryz.prog 277 #[.slice A_a n_a c_a, i64 left] w fun e w' => e = .returned (.int .i64 (szR left n_a)) ∧ St w [] [] w' := by
 refine enter 12 Tryz.func277 rfl Tryz.ntmps277 rfl rfl ?_
 have hs1 := St.init w
 refine WC.r1 hs1 [] rfl (WC.r1 hs1 [] rfl (WC.seq (fun K2 hK2 => WC.r1 hs1 [] rfl ?_)))
 refine WC.cD rfl (fun qh3 => ?_) (fun qh3 => ?_)
 ·refine WC.r1 hs1 [] rfl (WC.ret (tkR ?_))
  clear hK2
  refine rtv rfl rfl hs1 ?_
  simp only [szR]; rw [if_neg (by omega)]
 refine WC.skip (hK2 _ _ (WC.r1 hs1 [] rfl (WC.ret (rtv rfl rfl hs1 ?_))))
 simp only [szR]; rw [if_pos (by omega)]
theorem k14_ (A_a : Option Addr) (n_a c_a : Nat) (a : List Int) (A_b : Option Addr) (n_b c_b : Nat) (b : List Int) (w : World) (f_a : SlF encI w A_a n_a a) (f_b : SlF encI w A_b n_b b) (hn : n_a ≤ 1099511627776) (hab : a = b) :
    Calls Tryz.prog 171 #[.slice A_a n_a c_a, .slice A_b n_b c_b] w fun e w' => e = .returned (.bool true) ∧ St w [] [] w' := by
 subst hab
 obtain rfl : n_a = n_b := f_a.len.symm.trans f_b.len
 refine enter 26 Tryz.func171 rfl Tryz.ntmps171 rfl rfl ?_
 have hs1 := St.init w
 refine WC.r1 hs1 [] rfl (WC.seq (fun K2 hK2 => WC.r1 hs1 [] rfl (WC.condF rfl (by simp) (WC.skip (hK2 _ _ (WC.seq (fun K4 hK4 => WC.r1 hs1 [] rfl ?_)))))))
 refine WC.block (WC.lS [0, 1, 10] rfl hs1 (fun k_ f w' => ∃ (i : Nat), k_ = n_a - i ∧ (i ≤ n_a) ∧ Sub [(5, .int .i64 i)] f) ((fun (i : Nat) => n_a - i) (0)) ?_ ?_)
 ·refine ⟨0, rfl, ?_, ⟨rfl, trivial⟩⟩
  · exact Nat.zero_le _
 clear hs1
 rintro _ f w ⟨i, rfl, p0, hG⟩ hF hs5
 refine WC.sub _ (hG.app hF) ?_
 clear hG hF
 refine WC.seq (fun K6 hK6 => WC.r1 hs5 [] rfl ?_)
 refine WC.cD rfl (fun qh7 => ?_) (fun qh7 => ?_)
 ·refine WC.skip (hK6 _ _ (WC.seq (fun K8 hK8 => WC.block (WC.sq1 hs5 (WQ.r 2 [] rfl ?_)))))
  refine WQ.val rfl rfl rfl (fun w_ hs_ => (Run.idxN Tryz.runUnderlying60 Tryz.sizeOf3 rfl rfl rfl ?_ ?_ ?_)) ?_
  · exact SlF.some_ (SlF.st0 f_a (hs_ : St _ _ _ _))
  · omega
  · omega
  refine WQ.val rfl rfl rfl (fun w_ hs_ => (Run.load Tryz.isAgg3 rfl rfl (SlF.one1 (SlF.st0 f_a (hs_ : St _ _ _ _)) ?_ rfl))) ?_
  · omega
  refine WQ.r 2 [] rfl ?_
  refine WQ.val rfl rfl rfl (fun w_ hs_ => (Run.idxN Tryz.runUnderlying60 Tryz.sizeOf3 rfl rfl rfl ?_ ?_ ?_)) ?_
  · exact SlF.some_ (SlF.st0 f_b (hs_ : St _ _ _ _))
  · omega
  · omega
  refine WQ.val rfl rfl rfl (fun w_ hs_ => (Run.load Tryz.isAgg3 rfl rfl (SlF.one1 (SlF.st0 f_b (hs_ : St _ _ _ _)) ?_ rfl))) ?_
  · omega
  refine WQ.r 1 [] rfl (WQ.nil (fun _ (hs9 : St _ _ _ _) => WC.condF rfl (by simp) (WC.skip (hK8 _ _ (WC.region (WL.r 3 hs9 [] rfl (WL.nil ?_)))))))
  refine tkN (⟨sbF rfl, hs9, _, ?_, i + 1, rfl, ?_, ⟨rfl, trivial⟩⟩)
  · omega
  · omega
 refine WC.exit (hK4 _ _ (WC.r1 hs5 [] rfl (WC.ret (rtv rfl rfl hs5 ?_))))
 rfl
theorem k15_ (A_a : Option Addr) (n_a c_a : Nat) (a : List Int) (left : Int) (w : World) (f_a : SlF encI w A_a n_a a) (h1 : 0 ≤ left) (h2 : left ≤ 1048576) (h3 : n_a ≤ 9223372036854775807) :
    Calls Tryz.prog 160 #[.slice A_a n_a c_a, i64 left] w fun e w' => e = .returned (.int .i64 (szR left n_a)) ∧ St w [] [] w' := by
 refine enter 12 Tryz.func160 rfl Tryz.ntmps160 rfl rfl ?_
 have hs1 := St.init w
 refine WC.r1 hs1 [] rfl (WC.r1 hs1 [] rfl (WC.seq (fun K2 hK2 => WC.r1 hs1 [] rfl ?_)))
 refine WC.cD rfl (fun qh3 => ?_) (fun qh3 => ?_)
 ·refine WC.r1 hs1 [] rfl (WC.ret (tkR ?_))
  clear hK2
  refine rtv rfl rfl hs1 ?_
  simp only [szR]; rw [if_neg (by omega)]
 refine WC.skip (hK2 _ _ (WC.r1 hs1 [] rfl (WC.ret (rtv rfl rfl hs1 ?_))))
 simp only [szR]; rw [if_pos (by omega)]
theorem k16_ (A_a : Option Addr) (n_a c_a : Nat) (a : List Int) (w : World) (f_a : SlF encI w A_a n_a a) (hn : n_a ≤ 1099511627776) :
    Calls Tryz.prog 164 #[.slice A_a n_a c_a] w fun e w' => ∃ A c L1, e = .returned (.slice A (a).length c) ∧ St w [] L1 w' ∧ OwnF encI 3 (.slice A (a).length c) (a) L1 := by
 refine enter 22 Tryz.func164 rfl Tryz.ntmps164 rfl rfl ?_
 have hs1 := St.init w
 refine WC.r1 hs1 [] rfl (WC.sr (WL.r 2 hs1 [] rfl (WL.makeF (F := encI) hs1 Tryz.underlying60 inf3 rfl rfl rfl rfl rfl rfl rfl rfl rfl ?_ ?_ (fun A5 c6 L2 whs3 hs3 ho4 => ?_))))
 · have e_ : Tryz.t3.bytes = 8 := rfl
   rw [e_]; omega
 · omega
 refine WL.r 1 hs3 [] rfl (WL.nil (WC.seq (fun K7 hK7 => WC.r1 hs3 [] rfl (WC.block ?_))))
 refine WC.lO [0, 2] rfl hs3 (fun k_ f L_ => ∃ (i : Nat) (A8 : Option Addr) (c9 : Nat), k_ = n_a - i ∧ (i ≤ n_a) ∧ OwnF encI 3 (.slice A8 (n_a) c9) (fillG encI a i) L_ ∧ Sub [(3, .slice A8 (n_a) c9), (4, .int .i64 i)] f) (((fun (i : Nat) => n_a - i) (0))) ?_ ?_
 ·refine ⟨0, _, _, rfl, ?_, (fillG_zero f_a.len ▸ ho4), ⟨rfl, rfl, trivial⟩⟩
  · exact Nat.zero_le _
 clear hs3
 rintro _ f w L10 ⟨i, A8, c9, rfl, p0, ho11, hG⟩ hF hs12
 refine WC.sub _ (hG.app hF) ?_
 clear hG hF
 refine WC.seq (fun K13 hK13 => WC.r1 hs12 [] rfl ?_)
 refine WC.cq rfl (fun h14 qh14 => ?_) (fun h14 qh14 => ?_)
 ·refine WC.skip (hK13 _ _ (WC.seq (fun K15 hK15 => WC.block (WC.region (WL.r 4 hs12 [] rfl ?_)))))
  refine WL.val rfl rfl rfl (Run.idxN Tryz.runUnderlying60 Tryz.sizeOf3 rfl rfl rfl ?_ ?_ ?_) ?_
  · exact SlF.some_ (SlF.st0 f_a hs12)
  · omega
  · omega
  refine WL.val rfl rfl rfl (Run.load Tryz.isAgg3 rfl rfl (SlF.one1 (SlF.st0 f_a hs12) ?_ rfl)) ?_
  · omega
  refine WL.val rfl rfl rfl (Run.idxN Tryz.runUnderlying60 Tryz.sizeOf3 rfl rfl rfl ?_ ?_ ?_) ?_
  · exact SlF.some_ (SlF.ofOwn ho11 (hs12.ow L10))
  · omega
  · omega
  refine WL.storeF1 (x' := _) hs12 ho11 Tryz.sizeOf3 rfl rfl rfl rfl rfl rfl rfl rfl rfl ?_ rfl (fun L16 whs17 hs17 ho18 _ => ?_)
  · omega
  refine WL.nil (hK15 _ _ (WC.region (WL.r 3 hs17 [] rfl (WL.nil (tkN ?_)))))
  rw [fillG_set (i := i) (by rw [f_a.len]; omega) (by simp) (by simp)] at ho18
  refine ⟨sbF rfl, _, hs17, _, ?_, i + 1, _, _, rfl, ?_, ho18, ⟨rfl, rfl, trivial⟩⟩
  · omega
  · omega
 refine WC.exit (hK7 _ _ (WC.r1 hs12 [] rfl (WC.ret (retV1 rfl (resV.tmp rfl) ?_))))
 have hx_ := OwnF.eqOf (xs := a) ho11 (fillG_full (by rw [f_a.len]; omega))
 have hy_ := ho11
 rw [hx_] at hy_
 obtain ⟨A_, c_, hz_⟩ := hy_.shape
 exact ⟨A_, c_, _, congrArg Ending.returned hz_, (St.keep1 hs12), hz_ ▸ hy_⟩
theorem k17_ (A_a : Option Addr) (n_a c_a : Nat) (a : List NodeD) (left : Int) (w : World) (f_a : SlF encNode w A_a n_a a) (h1 : 0 ≤ left) (h2 : left ≤ 1048576) (h3 : n_a ≤ 9223372036854775807) :
    Calls Tryz.prog 159 #[.slice A_a n_a c_a, i64 left] w fun e w' => e = .returned (.int .i64 (szR left n_a)) ∧ St w [] [] w' := by
 refine enter 12 Tryz.func159 rfl Tryz.ntmps159 rfl rfl ?_
 have hs1 := St.init w
 refine WC.r1 hs1 [] rfl (WC.r1 hs1 [] rfl (WC.seq (fun K2 hK2 => WC.r1 hs1 [] rfl ?_)))
 refine WC.cD rfl (fun qh3 => ?_) (fun qh3 => ?_)
 ·refine WC.r1 hs1 [] rfl (WC.ret (tkR ?_))
  clear hK2
  refine rtv rfl rfl hs1 ?_
  simp only [szR]; rw [if_neg (by omega)]
 refine WC.skip (hK2 _ _ (WC.r1 hs1 [] rfl (WC.ret (rtv rfl rfl hs1 ?_))))
 simp only [szR]; rw [if_pos (by omega)]
theorem k18_ (a_Pane : Int) (a_Down : Bool) (a_First : Int) (w : World) :
    Calls Tryz.prog 208 #[.agg #[i64 a_Pane, .bool a_Down, i64 a_First]] w fun e w' => e = .returned (.agg #[i64 a_Pane, .bool a_Down, i64 a_First]) ∧ St w [] [] w' := by
 refine enter 14 Tryz.func208 rfl Tryz.ntmps208 rfl rfl ?_
 have hs1 := St.init w
 refine WC.sr (WL.bx hs1 rfl (fun b2 _ hs3 => WL.al hs3 Tryz.zeroValue103 rfl rfl (fun b4 _ hs5 => WL.nil (WC.sr (WL.al hs5 Tryz.zeroValue103 rfl rfl (fun b6 _ hs7 => WL.nil (WC.sr ?_)))))))
 refine WL.r 3 hs7 [2] rfl (WL.st tbk hs7 0 rfl rfl (fun _ hs8 => WL.nil (WC.sr (WL.r 3 hs8 [2] rfl (WL.st tbk hs8 0 rfl rfl (fun _ hs9 => WL.nil (WC.sr ?_)))))))
 refine WL.r 3 hs9 [2] rfl (WL.st tbk hs9 0 rfl rfl (fun _ hs10 => WL.nil (WC.sr (WL.r 1 hs10 [0] rfl (WL.st tbk hs10 1 rfl rfl (fun _ hs11 => WL.nil (WC.ret ?_)))))))
 refine retV1 rfl (resV.cellA tbk hs11 1 rfl rfl rfl rfl) (⟨congrArg Ending.returned ?_, hs11.nil⟩)
 rfl
theorem k19_ (a_Pane : Int) (a_Down : Bool) (a_First : Int) (b_Pane : Int) (b_Down : Bool) (b_First : Int) (w : World) (hab : (⟨a_Pane, a_Down, a_First⟩ : NodeD) = (⟨b_Pane, b_Down, b_First⟩ : NodeD)) :
    Calls Tryz.prog 213 #[.agg #[i64 a_Pane, .bool a_Down, i64 a_First], .agg #[i64 b_Pane, .bool b_Down, i64 b_First]] w fun e w' => e = .returned (.bool true) ∧ St w [] [] w' := by
 cases hab
 refine enter 20 Tryz.func213 rfl Tryz.ntmps213 rfl rfl ?_
 have hs1 := St.init w
 refine WC.sr (WL.bx hs1 rfl (fun b2 _ hs3 => WL.bx hs3 rfl (fun b4 _ hs5 => WL.r 1 hs5 [] rfl (WL.nil (WC.seq (fun K6 hK6 => WC.r1 hs5 [1, 0] rfl (WC.condF rfl (by simp) ?_)))))))
 refine WC.skip (hK6 _ _ (WC.seq (fun K8 hK8 => WC.r1 hs5 [1, 0] rfl (WC.condF rfl (by simp) (WC.skip (hK8 _ _ (WC.seq (fun K10 hK10 => ?_))))))))
 refine WC.r1 hs5 [1, 0] rfl (WC.condF rfl (by simp) (WC.skip (hK10 _ _ (WC.r1 hs5 [] rfl (WC.ret (rtv rfl rfl hs5 ?_))))))
 rfl
theorem k20_ (A_a : Option Addr) (n_a c_a : Nat) (a : List NodeD) (w : World) (f_a : SlF encNode w A_a n_a a) (hn : n_a ≤ 1099511627776) :
    Calls Tryz.prog 163 #[.slice A_a n_a c_a] w fun e w' => ∃ A c L1, e = .returned (.slice A (a).length c) ∧ St w [] L1 w' ∧ OwnF encNode 103 (.slice A (a).length c) (a) L1 := by
 refine enter 23 Tryz.func163 rfl Tryz.ntmps163 rfl rfl ?_
 have hs1 := St.init w
 refine WC.r1 hs1 [] rfl (WC.sr (WL.r 2 hs1 [] rfl (WL.makeF (F := encNode) hs1 Tryz.underlying56 inf103 rfl rfl rfl rfl rfl rfl rfl rfl rfl ?_ ?_ (fun A5 c6 L2 whs3 hs3 ho4 => ?_))))
 · have e_ : Tryz.t103.bytes = 24 := rfl
   rw [e_]; omega
 · omega
 refine WL.r 1 hs3 [] rfl (WL.nil (WC.seq (fun K7 hK7 => WC.r1 hs3 [] rfl (WC.block ?_))))
 refine WC.lO [0, 2] rfl hs3 (fun k_ f L_ => ∃ (i : Nat) (A8 : Option Addr) (c9 : Nat), k_ = n_a - i ∧ (i ≤ n_a) ∧ OwnF encNode 103 (.slice A8 (n_a) c9) (fillG encNode a i) L_ ∧ Sub [(3, .slice A8 (n_a) c9), (4, .int .i64 i)] f) (((fun (i : Nat) => n_a - i) (0))) ?_ ?_
 ·refine ⟨0, _, _, rfl, ?_, (fillG_zero f_a.len ▸ ho4), ⟨rfl, rfl, trivial⟩⟩
  · exact Nat.zero_le _
 clear hs3
 rintro _ f w L10 ⟨i, A8, c9, rfl, p0, ho11, hG⟩ hF hs12
 refine WC.sub _ (hG.app hF) ?_
 clear hG hF
 refine WC.seq (fun K13 hK13 => WC.r1 hs12 [] rfl ?_)
 refine WC.cq rfl (fun h14 qh14 => ?_) (fun h14 qh14 => ?_)
 ·refine WC.skip (hK13 _ _ (WC.seq (fun K15 hK15 => WC.block (WC.region (WL.r 4 hs12 [] rfl ?_)))))
  refine WL.val rfl rfl rfl (Run.idxN Tryz.runUnderlying145 Tryz.sizeOf230 rfl rfl rfl ?_ ?_ ?_) ?_
  · exact SlF.some_ (SlF.st0 f_a hs12)
  · omega
  · omega
  refine WL.val rfl rfl rfl (Run.loadA Tryz.isAgg230 Tryz.sizeOf230 rfl rfl (SlF.whole (SlF.st0 f_a hs12) ?_)) ?_
  · omega
  refine WL.cl Tryz.call208 rfl (k18_ _ _ _ _) ?_
  rintro _ whs16 ⟨rfl, hs16⟩
  replace hs16 := hs12.call0 hs16
  refine ⟨_, rfl, WL.val rfl rfl rfl (Run.idxN Tryz.runUnderlying56 Tryz.sizeOf103 rfl rfl rfl ?_ ?_ ?_) ?_⟩
  · exact SlF.some_ (SlF.ofOwn ho11 (hs16.ow L10))
  · omega
  · omega
  refine WL.storeF1 (x' := _) hs16 ho11 Tryz.sizeOf103 rfl rfl rfl rfl rfl rfl rfl rfl rfl ?_ rfl (fun L17 whs18 hs18 ho19 _ => ?_)
  · omega
  refine WL.nil (hK15 _ _ (WC.region (WL.r 3 hs18 [] rfl (WL.nil (tkN ?_)))))
  rw [fillG_set (i := i) (by rw [f_a.len]; omega) (by simp) (by simp)] at ho19
  refine ⟨sbF rfl, _, hs18, _, ?_, i + 1, _, _, rfl, ?_, ho19, ⟨rfl, rfl, trivial⟩⟩
  · omega
  · omega
 refine WC.exit (hK7 _ _ (WC.r1 hs12 [] rfl (WC.ret (retV1 rfl (resV.tmp rfl) ?_))))
 have hx_ := OwnF.eqOf (xs := a) ho11 (fillG_full (by rw [f_a.len]; omega))
 have hy_ := ho11
 rw [hx_] at hy_
 obtain ⟨A_, c_, hz_⟩ := hy_.shape
 exact ⟨A_, c_, _, congrArg Ending.returned hz_, (St.keep1 hs12), hz_ ▸ hy_⟩
theorem k21_ (A_a : Option Addr) (n_a c_a : Nat) (a : List NodeD) (A_b : Option Addr) (n_b c_b : Nat) (b : List NodeD) (w : World) (f_a : SlF encNode w A_a n_a a) (f_b : SlF encNode w A_b n_b b) (hn : n_a ≤ 1099511627776) (hab : a = b) :
    Calls Tryz.prog 170 #[.slice A_a n_a c_a, .slice A_b n_b c_b] w fun e w' => e = .returned (.bool true) ∧ St w [] [] w' := by
 subst hab
 obtain rfl : n_a = n_b := f_a.len.symm.trans f_b.len
 refine enter 27 Tryz.func170 rfl Tryz.ntmps170 rfl rfl ?_
 have hs1 := St.init w
 refine WC.r1 hs1 [] rfl (WC.seq (fun K2 hK2 => WC.r1 hs1 [] rfl (WC.condF rfl (by simp) (WC.skip (hK2 _ _ (WC.seq (fun K4 hK4 => WC.r1 hs1 [] rfl ?_)))))))
 refine WC.block (WC.lS [0, 1, 10] rfl hs1 (fun k_ f w' => ∃ (i : Nat), k_ = n_a - i ∧ (i ≤ n_a) ∧ Sub [(5, .int .i64 i)] f) ((fun (i : Nat) => n_a - i) (0)) ?_ ?_)
 ·refine ⟨0, rfl, ?_, ⟨rfl, trivial⟩⟩
  · exact Nat.zero_le _
 clear hs1
 rintro _ f w ⟨i, rfl, p0, hG⟩ hF hs5
 refine WC.sub _ (hG.app hF) ?_
 clear hG hF
 refine WC.seq (fun K6 hK6 => WC.r1 hs5 [] rfl ?_)
 refine WC.cD rfl (fun qh7 => ?_) (fun qh7 => ?_)
 ·refine WC.skip (hK6 _ _ (WC.seq (fun K8 hK8 => WC.block (WC.sq1 hs5 (WQ.r 2 [] rfl ?_)))))
  refine WQ.val rfl rfl rfl (fun w_ hs_ => (Run.idxN Tryz.runUnderlying56 Tryz.sizeOf103 rfl rfl rfl ?_ ?_ ?_)) ?_
  · exact SlF.some_ (SlF.st0 f_a (hs_ : St _ _ _ _))
  · omega
  · omega
  refine WQ.val rfl rfl rfl (fun w_ hs_ => (Run.loadA Tryz.isAgg103 Tryz.sizeOf103 rfl rfl (SlF.whole (SlF.st0 f_a (hs_ : St _ _ _ _)) ?_))) ?_
  · omega
  refine WQ.r 2 [] rfl ?_
  refine WQ.val rfl rfl rfl (fun w_ hs_ => (Run.idxN Tryz.runUnderlying56 Tryz.sizeOf103 rfl rfl rfl ?_ ?_ ?_)) ?_
  · exact SlF.some_ (SlF.st0 f_b (hs_ : St _ _ _ _))
  · omega
  · omega
  refine WQ.val rfl rfl rfl (fun w_ hs_ => (Run.loadA Tryz.isAgg103 Tryz.sizeOf103 rfl rfl (SlF.whole (SlF.st0 f_b (hs_ : St _ _ _ _)) ?_))) ?_
  · omega
  refine WQ.call rfl rfl rfl (fun w_ hs_ => (Run.call Tryz.call213 rfl rfl rfl)) (fun w_ hs_ => (k19_ _ _ _ _ _ _ _ ?_).mono fun e_ w_ h_ => ⟨h_.1, (hs_ : St _ _ _ _).call0 h_.2⟩) ?_
  · first | assumption | rfl | omega
  refine WQ.r 1 [] rfl (WQ.nil (fun _ (hs9 : St _ _ _ _) => WC.condF rfl (by simp) (WC.skip (hK8 _ _ (WC.region (WL.r 3 hs9 [] rfl (WL.nil ?_)))))))
  refine tkN (⟨sbF rfl, hs9, _, ?_, i + 1, rfl, ?_, ⟨rfl, trivial⟩⟩)
  · omega
  · omega
 refine WC.exit (hK4 _ _ (WC.r1 hs5 [] rfl (WC.ret (rtv rfl rfl hs5 ?_))))
 rfl
def leafOk (n : NodeD) : Bool := isId n.Pane && !n.Down && decide (n.First = 0)
def nodeOk (n : NodeD) : Bool := if n.Pane = 0 then within n.First 1 120 else leafOk n
inductive Tr where
  | leaf (n : NodeD)
  | split (n : NodeD) (a b : Tr)
def Tr.flat : Tr → List NodeD
  | .leaf n => [n]
  | .split n a b => n :: (a.flat ++ b.flat)
def Tr.shaped : Tr → Prop
  | .leaf n => n.Pane ≠ 0
  | .split n a b => n.Pane = 0 ∧ a.shaped ∧ b.shaped
theorem Tr.flat_pos : ∀ (T : Tr), 0 < T.flat.length
  | .leaf n => by simp [flat]
  | .split n a b => by simp [flat]
def skipF (ok : NodeD → Bool) : Nat → List NodeD → Option (List NodeD)
  | 0, _ => none
  | _ + 1, [] => none
  | k + 1, n :: r => if ok n = false then none else if n.Pane ≠ 0 then some r else (skipF ok k r).bind (skipF ok k)
theorem skipF_flat {ok : NodeD → Bool} : ∀ {T : Tr} {k : Nat} {r : List NodeD}, T.shaped → (∀ n, n ∈ T.flat → ok n = true) → T.flat.length ≤ k → skipF ok k (T.flat ++ r) = some r
  | .leaf n, k, r, hs, ho, hk => by
    cases k with
    | zero => simp [Tr.flat] at hk
    | succ k =>
      have := ho n (by simp [Tr.flat])
      simp only [Tr.shaped] at hs
      simp [Tr.flat, skipF, this, hs]
  | .split n a b, k, r, hs, ho, hk => by
    cases k with
    | zero => simp [Tr.flat] at hk
    | succ k =>
      obtain ⟨h0, h1, h2⟩ := hs
      simp only [Tr.flat, List.length_cons, List.length_append] at hk
      have hn := ho n (by simp [Tr.flat])
      have ha := skipF_flat (T := a) (k := k) (r := b.flat ++ r) h1 (fun m hm => ho m (by simp [Tr.flat, hm])) (by omega)
      have hb := skipF_flat (T := b) (k := k) (r := r) h2 (fun m hm => ho m (by simp [Tr.flat, hm])) (by omega)
      simp only [Tr.flat, List.cons_append, List.append_assoc, skipF, hn, h0, ha, hb, Option.bind]
      simp
theorem skipF_some {ok : NodeD → Bool} : ∀ {k : Nat} {l r : List NodeD}, skipF ok k l = some r → ∃ T : Tr, T.shaped ∧ (∀ n, n ∈ T.flat → ok n = true) ∧ l = T.flat ++ r
  | 0, l, r, h => by simp [skipF] at h
  | k + 1, [], r, h => by simp [skipF] at h
  | k + 1, n :: l, r, h => by
    rw [skipF] at h
    split at h
    · cases h
    · rename_i ho
      have ho : ok n = true := by simpa using ho
      split at h
      · rename_i hp
        obtain rfl := Option.some.inj h
        exact ⟨.leaf n, hp, by simpa [Tr.flat] using ho, rfl⟩
      · rename_i hp
        have hp : n.Pane = 0 := by simpa using hp
        obtain ⟨m, h1, h2⟩ := Option.bind_eq_some_iff.1 h
        obtain ⟨a, ha, hao, rfl⟩ := skipF_some h1
        obtain ⟨b, hb, hbo, rfl⟩ := skipF_some h2
        refine ⟨.split n a b, ⟨hp, ha, hb⟩, ?_, by simp [Tr.flat]⟩
        intro m hm
        simp only [Tr.flat, List.mem_cons, List.mem_append] at hm
        rcases hm with rfl | hm | hm
        · exact ho
        · exact hao m hm
        · exact hbo m hm
theorem skipF_more {ok : NodeD → Bool} {k k' : Nat} {l : List NodeD} (h : l.length ≤ k) (h' : l.length ≤ k') : skipF ok k l = skipF ok k' l := by
  have key : ∀ {k k' : Nat} {r : List NodeD}, l.length ≤ k' → skipF ok k l = some r → skipF ok k' l = some r := by
    intro k k' r hk hr
    obtain ⟨T, hT, ho, rfl⟩ := skipF_some hr
    rw [List.length_append] at hk
    exact skipF_flat hT ho (by omega)
  cases e : skipF ok k l with
  | some r => exact (key h' e).symm
  | none =>
    cases e' : skipF ok k' l with
    | none => rfl
    | some r => rw [key h e'] at e; cases e
def needGo : Nat → List NodeD → Option (List NodeD)
  | _, [] => none
  | need, n :: r => if (if n.Pane = 0 then need + 1 else need - 1) = 0 then some r else needGo (if n.Pane = 0 then need + 1 else need - 1) r
theorem needGo_flat : ∀ {T : Tr} {k : Nat} {r : List NodeD}, T.shaped → needGo (k + 1) (T.flat ++ r) = if k = 0 then some r else needGo k r
  | .leaf n, k, r, hs => by
    simp only [Tr.shaped] at hs
    simp [Tr.flat, needGo, hs]
  | .split n a b, k, r, hs => by
    obtain ⟨h0, h1, h2⟩ := hs
    have ha := needGo_flat (T := a) (k := k + 1) (r := b.flat ++ r) h1
    have hb := needGo_flat (T := b) (k := k) (r := r) h2
    simp only [Tr.flat, List.cons_append, List.append_assoc, needGo, h0, if_true]
    rw [if_neg (by omega), ha, if_neg (by omega), hb]
theorem needGo_some : ∀ {l r : List NodeD} {k : Nat}, needGo (k + 1) l = some r → ∃ (T : Tr) (l' : List NodeD), T.shaped ∧ l = T.flat ++ l' ∧ (if k = 0 then l' = r else needGo k l' = some r)
  | [], r, k, h => by simp [needGo] at h
  | n :: l, r, k, h => by
    rw [needGo] at h
    by_cases hp : n.Pane = 0
    · simp only [if_pos hp] at h
      rw [if_neg (by omega)] at h
      obtain ⟨a, l1, ha, rfl, h1⟩ := needGo_some (k := k + 1) h
      rw [if_neg (by omega)] at h1
      have hl : l1.length < (n :: (a.flat ++ l1)).length := by simp; omega
      obtain ⟨b, l2, hb, rfl, h2⟩ := needGo_some (k := k) h1
      exact ⟨.split n a b, l2, ⟨hp, ha, hb⟩, by simp [Tr.flat], h2⟩
    · simp only [if_neg hp] at h
      refine ⟨.leaf n, l, hp, rfl, ?_⟩
      by_cases hk : k = 0
      · subst hk
        simp at h
        rw [if_pos rfl]; exact h
      · rw [if_neg hk]
        rw [Nat.add_sub_cancel, if_neg hk] at h
        exact h
termination_by l => l.length
def endOfL (t : List NodeD) (o : Option (List NodeD)) : Int := match o with | some r => (t.length : Int) - r.length | none => -1
def endI (t : List NodeD) (at_ : Int) : Int := if 0 ≤ at_ ∧ at_ < t.length then endOfL t (skipF nodeOk t.length (t.drop at_.toNat)) else -1
def sEnd (t : List NodeD) (at_ : Nat) : Int := endOfL t (needGo 1 (t.drop at_))
theorem nat_drop {t : List NodeD} {i : Nat} (h : i < t.length) : t.drop i = gat encNode t i :: t.drop (i + 1) := by
  rw [List.drop_eq_getElem_cons h]; congr 1; have := gat_get (F := encNode) h; rw [List.getElem?_eq_getElem h] at this; exact Option.some.inj this
theorem endI_out {t : List NodeD} {at_ : Int} (h : ¬ (0 ≤ at_ ∧ at_ < t.length)) : endI t at_ = -1 := if_neg h
theorem endI_leaf {t : List NodeD} {i : Nat} (h : i < t.length) (hp : (gat encNode t i).Pane ≠ 0) : endI t i = if leafOk (gat encNode t i) = true then (i : Int) + 1 else -1 := by
  rw [endI, if_pos ⟨by omega, by omega⟩, Int.toNat_natCast, nat_drop h]
  obtain ⟨k, hk⟩ : ∃ k, t.length = k + 1 := ⟨t.length - 1, by omega⟩
  rw [hk, skipF, nodeOk, if_neg hp]
  cases e : leafOk (gat encNode t i)
  · simp [endOfL]
  · simp [hp, endOfL]; omega
theorem endI_bad {t : List NodeD} {i : Nat} (h : i < t.length) (hp : (gat encNode t i).Pane = 0) (hf : within (gat encNode t i).First 1 120 = false) : endI t i = -1 := by
  rw [endI, if_pos ⟨by omega, by omega⟩, Int.toNat_natCast, nat_drop h]
  obtain ⟨k, hk⟩ : ∃ k, t.length = k + 1 := ⟨t.length - 1, by omega⟩
  rw [hk, skipF, nodeOk, if_pos hp, hf]
  simp [endOfL]
theorem endI_range {t : List NodeD} {at_ : Int} : endI t at_ = -1 ∨ at_ < endI t at_ ∧ endI t at_ ≤ t.length ∧ 0 ≤ at_ := by
  by_cases h : 0 ≤ at_ ∧ at_ < t.length
  · rw [endI, if_pos h]
    cases e : skipF nodeOk t.length (t.drop at_.toNat) with
    | none => exact Or.inl rfl
    | some r =>
      obtain ⟨T, hT, _, hl⟩ := skipF_some e
      have h1 := congrArg List.length hl
      have h2 := T.flat_pos
      rw [List.length_drop, List.length_append] at h1
      simp only [endOfL]
      exact Or.inr ⟨by omega, by omega, h.1⟩
  · exact Or.inl (endI_out h)
theorem endI_split {t : List NodeD} {i : Nat} (h : i < t.length) (hp : (gat encNode t i).Pane = 0) (hf : within (gat encNode t i).First 1 120 = true) : endI t i = endI t (endI t ((i : Int) + 1)) := by
  rw [endI, if_pos ⟨by omega, by omega⟩, Int.toNat_natCast, nat_drop h]
  obtain ⟨k, hk⟩ : ∃ k, t.length = k + 1 := ⟨t.length - 1, by omega⟩
  rw [hk, skipF, nodeOk, if_pos hp, hf]
  simp only [Bool.true_eq_false, if_false, ne_eq, hp, not_true_eq_false]
  have hd : (t.drop (i + 1)).length ≤ k := by rw [List.length_drop]; omega
  rw [skipF_more (k := k) (k' := t.length) hd (by rw [List.length_drop]; omega)]
  by_cases hi : i + 1 < t.length
  · have e1 : endI t ((i : Int) + 1) = endOfL t (skipF nodeOk t.length (t.drop (i + 1))) := by
      rw [endI, if_pos ⟨by omega, by omega⟩, show ((i : Int) + 1).toNat = i + 1 by omega]
    rw [e1]
    cases e : skipF nodeOk t.length (t.drop (i + 1)) with
    | none =>
      rw [endOfL, endI_out (by omega)]
      rfl
    | some r =>
      obtain ⟨T, hT, _, hl⟩ := skipF_some e
      have h1 := congrArg List.length hl
      have h2 := T.flat_pos
      rw [List.length_drop, List.length_append] at h1
      have hr : r = t.drop (t.length - r.length) := by
        have e2 : t.length - r.length = (i + 1) + T.flat.length := by omega
        rw [e2, ← List.drop_drop, hl, List.drop_left]
      simp only [Option.bind, endOfL]
      by_cases hr0 : r.length = 0
      · have : r = [] := List.eq_nil_of_length_eq_zero hr0
        subst this
        rw [endI_out (by simp)]
        obtain ⟨k', hk'⟩ : ∃ k', k = k' + 1 := ⟨k - 1, by omega⟩
        rw [hk', skipF]
      · rw [endI, if_pos ⟨by omega, by omega⟩, show ((t.length : Int) - r.length).toNat = t.length - r.length by omega, ← hr, skipF_more (k := k) (k' := t.length) (by omega) (by omega)]
        rfl
  · have e1 : endI t ((i : Int) + 1) = -1 := endI_out (by omega)
    rw [e1, endI_out (by omega), List.drop_eq_nil_of_le (by omega)]
    obtain ⟨k', hk'⟩ : ∃ k', t.length = k' + 1 := ⟨t.length - 1, by omega⟩
    rw [hk', skipF]
    rfl
def panesL (t : List NodeD) : List Int := (t.filter fun n => decide (n.Pane ≠ 0)).map (·.Pane)
def treeOk (t : List NodeD) : Bool := decide (t.length ≤ 31) && decide (endI t 0 = t.length) && decide (panesL t).Nodup
def Valid (t : List NodeD) (T : Tr) : Prop := T.shaped ∧ (∀ n, n ∈ t → nodeOk n = true) ∧ T.flat = t
theorem panesL_take {t : List NodeD} {i : Nat} (h : i < t.length) : panesL (t.take (i + 1)) = panesL (t.take i) ++ (if (gat encNode t i).Pane ≠ 0 then [(gat encNode t i).Pane] else []) := by
  unfold panesL
  rw [List.take_add_one, gat_get (F := encNode) h, List.filter_append, List.map_append]
  congr 1
  by_cases h : (gat encNode t i).Pane = 0 <;> simp [h]
theorem endI_zero {t : List NodeD} : endI t 0 = t.length ↔ ∃ T, Valid t T := by
  constructor
  · intro h
    by_cases h0 : 0 < t.length
    · rw [endI, if_pos ⟨by omega, by omega⟩] at h
      cases e : skipF nodeOk t.length (t.drop (0 : Int).toNat) with
      | none => rw [e] at h; simp only [endOfL] at h; omega
      | some r =>
        rw [e] at h
        obtain ⟨T, hT, ho, hl⟩ := skipF_some e
        simp only [endOfL] at h
        have : r = [] := List.eq_nil_of_length_eq_zero (by omega)
        subst this
        simp at hl
        exact ⟨T, hT, by rw [hl]; exact ho, hl.symm⟩
    · rw [endI_out (by omega)] at h
      omega
  · rintro ⟨T, hT, ho, rfl⟩
    have h0 := T.flat_pos
    have := skipF_flat (ok := nodeOk) (T := T) (k := T.flat.length) (r := []) hT ho (Nat.le_refl _)
    rw [endI, if_pos ⟨by omega, by omega⟩]
    simp only [Int.toNat_zero, List.drop_zero]
    rw [List.append_nil] at this
    rw [this]
    simp [endOfL]
theorem sEnd_zero {t : List NodeD} : sEnd t 0 = t.length ↔ ∃ T : Tr, T.shaped ∧ T.flat = t := by
  constructor
  · intro h
    rw [sEnd] at h
    cases e : needGo 1 (t.drop 0) with
    | none => rw [e] at h; simp only [endOfL] at h; omega
    | some r =>
      rw [e] at h
      obtain ⟨T, l', hT, hl, h1⟩ := needGo_some (k := 0) e
      rw [if_pos rfl] at h1
      subst h1
      simp only [endOfL] at h
      have : l' = [] := List.eq_nil_of_length_eq_zero (by omega)
      subst this
      simp at hl
      exact ⟨T, hT, hl.symm⟩
  · rintro ⟨T, hT, rfl⟩
    have := needGo_flat (T := T) (k := 0) (r := []) hT
    rw [if_pos rfl, List.append_nil] at this
    rw [sEnd, List.drop_zero]
    rw [show needGo 1 T.flat = some [] from this]
    simp [endOfL]
theorem treeOk_iff {t : List NodeD} : treeOk t = true ↔ t.length ≤ 31 ∧ (∃ T, Valid t T) ∧ (panesL t).Nodup := by
  simp only [treeOk, Bool.and_eq_true, decide_eq_true_eq, endI_zero, and_assoc]
theorem treeOk_mk {t : List NodeD} (h1 : t.length ≤ 31) (h2 : sEnd t 0 = t.length) (h3 : ∀ i, i < t.length → nodeOk (gat encNode t i) = true) (h4 : (panesL t).Nodup) : treeOk t = true := by
  obtain ⟨T, hT, hf⟩ := sEnd_zero.1 h2
  refine treeOk_iff.2 ⟨h1, ⟨T, hT, fun n hn => ?_, hf⟩, h4⟩
  obtain ⟨i, hi, rfl⟩ := List.mem_iff_getElem.1 hn
  have e := gat_get (F := encNode) hi
  rw [List.getElem?_eq_getElem hi] at e
  rw [Option.some.inj e]
  exact h3 i hi
theorem treeOk_len {t : List NodeD} (h : treeOk t = true) : t.length ≤ 31 := (treeOk_iff.1 h).1
theorem treeOk_sEnd {t : List NodeD} (h : treeOk t = true) : sEnd t 0 = t.length := by
  obtain ⟨_, ⟨T, hT, _, hf⟩, _⟩ := treeOk_iff.1 h
  exact sEnd_zero.2 ⟨T, hT, hf⟩
theorem treeOk_node {t : List NodeD} (h : treeOk t = true) {i : Nat} (hi : i < t.length) : nodeOk (gat encNode t i) = true := by
  obtain ⟨_, ⟨T, hT, ho, hf⟩, _⟩ := treeOk_iff.1 h
  exact ho _ (gat_mem hi)
theorem treeOk_nodup {t : List NodeD} (h : treeOk t = true) : (panesL t).Nodup := (treeOk_iff.1 h).2.2
theorem panesL_sub {t : List NodeD} {i : Nat} : (panesL (t.take i)).Sublist (panesL t) := by
  unfold panesL
  exact ((List.take_sublist i t).filter _).map _
theorem nodeOk_pane {n : NodeD} (h : nodeOk n = true) : 0 ≤ n.Pane ∧ n.Pane ≤ 1000000 ∧ 0 ≤ n.First ∧ n.First ≤ 120 := by
  unfold nodeOk leafOk isId at h
  split at h <;> simp [within] at h <;> omega
def adjNe (l : List Int) : Prop := ∀ i, i + 1 < l.length → iat l (i + 1) ≠ iat l i
theorem iat_getElem {l : List Int} {i : Nat} (h : i < l.length) : iat l i = l[i] := by
  have e := gat_get (F := encI) h
  rw [List.getElem?_eq_getElem h] at e
  exact (Option.some.inj e).symm
theorem sorted_adj {l : List Int} (hs : l.Pairwise (· ≤ ·)) : adjNe l ↔ l.Nodup := by
  rw [List.Nodup]
  constructor
  · intro h
    rw [List.pairwise_iff_getElem] at hs ⊢
    intro i j hi hj hij
    have h1 := h i (by omega)
    rw [iat_getElem (by omega), iat_getElem (by omega)] at h1
    have h2 := hs i (i + 1) (by omega) (by omega) (by omega)
    rcases Nat.lt_or_ge (i + 1) j with h3 | h3
    · have := hs (i + 1) j (by omega) hj h3
      omega
    · obtain rfl : j = i + 1 := by omega
      omega
  · intro h i hi
    rw [iat_getElem (by omega), iat_getElem (by omega)]
    have := List.pairwise_iff_getElem.1 h i (i + 1) (by omega) hi (by omega)
    exact fun e => this e.symm
def sortI (l : List Int) : List Int := l.mergeSort fun x y => decide (x ≤ y)
theorem sortI_perm (l : List Int) : (sortI l).Perm l := List.mergeSort_perm _ _
theorem sortI_len (l : List Int) : (sortI l).length = l.length := (sortI_perm l).length_eq
theorem sortI_sorted (l : List Int) : (sortI l).Pairwise (· ≤ ·) := by
  have := List.pairwise_mergeSort (le := fun x y : Int => decide (x ≤ y)) (fun a b c h1 h2 => by simp at *; omega) (fun a b => by simp; omega) l
  exact this.imp (fun h => by simpa using h)
theorem sortI_adj {l : List Int} : adjNe (sortI l) ↔ l.Nodup := (sorted_adj (sortI_sorted l)).trans (sortI_perm l).nodup_iff
def leavesL (t : List NodeD) : List Int := if treeOk t = true then panesL t else []
theorem panesL_len (t : List NodeD) : (panesL t).length ≤ t.length := by
  unfold panesL
  rw [List.length_map]
  exact List.length_filter_le _ _
theorem leavesL_len (t : List NodeD) : (leavesL t).length ≤ 31 := by
  unfold leavesL
  split
  · rename_i h
    have := treeOk_len h
    have := panesL_len t
    omega
  · simp
theorem nodup_snoc {l : List Int} {x : Int} (h : l.Nodup) (hx : x ∉ l) : (l ++ [x]).Nodup := by
  rw [List.nodup_append]
  refine ⟨h, by simp, fun a ha b hb => ?_⟩
  simp at hb
  subst hb
  exact fun e => hx (e ▸ ha)
def leafB (n : NodeD) : Bool := decide (1 ≤ n.Pane) && decide (n.Pane ≤ 1000000) && !n.Down && decide (n.First = 0)
def splitB (n : NodeD) : Bool := decide (n.Pane = 0) && decide (1 ≤ n.First) && decide (n.First ≤ 120)
theorem nodeOk_or (n : NodeD) : nodeOk n = (leafB n || splitB n) := by
  rw [Bool.eq_iff_iff]
  unfold nodeOk leafOk isId within leafB splitB
  by_cases h : n.Pane = 0
  · simp [h]
  · simp [h]
theorem leafB_ne {n : NodeD} (h : leafB n = true) : n.Pane ≠ 0 := by
  simp [leafB] at h; omega
theorem leafB_not {n : NodeD} (h : leafB n = false) (hn : nodeOk n = true) : n.Pane = 0 := by
  rw [nodeOk_or, h, Bool.false_or] at hn
  simp [splitB] at hn
  exact hn.1.1
theorem node_step {n : NodeD} {zs : List Int} (h : (!leafB n && !splitB n || leafB n && decide (n.Pane ∈ zs)) = false) : nodeOk n = true ∧ (leafB n = true → n.Pane ∉ zs) := by
  rw [nodeOk_or]
  cases h1 : leafB n <;> cases h2 : splitB n <;> simp_all
theorem node_bad {t : List NodeD} {i : Nat} (hi : i < t.length) (h : (!leafB (gat encNode t i) && !splitB (gat encNode t i) || leafB (gat encNode t i) && decide ((gat encNode t i).Pane ∈ panesL (t.take i))) = true) : treeOk t = false := by
  cases ht : treeOk t with
  | false => rfl
  | true =>
    exfalso
    have h1 := treeOk_node ht hi
    have h2 := (treeOk_nodup ht).sublist (panesL_sub (i := i + 1))
    rw [nodeOk_or] at h1
    cases hl : leafB (gat encNode t i) with
    | false => rw [hl, Bool.false_or] at h1; rw [hl, h1] at h; simp at h
    | true =>
      rw [hl] at h
      rw [panesL_take hi, if_pos (leafB_ne hl), List.nodup_append] at h2
      simp at h
      exact h2.2.2 _ h _ (by simp) rfl
theorem findI_lt {α : Type} {p : α → Bool} {xs : List α} : -1 ≤ findI p xs ∧ findI p xs < xs.length := by
  rcases findI_cases (p := p) (xs := xs) with ⟨h, _⟩ | ⟨i, hi, h, _⟩ <;> omega
def atL (t : List NodeD) (p : Int) : Int := findI (fun n => !decide (n.Pane = 0) && decide (n.Pane = p)) t
theorem sub_at : ∀ {T : Tr} {i : Nat}, T.shaped → i < T.flat.length → ∃ (S : Tr) (r : List NodeD), S.shaped ∧ (∀ n, n ∈ S.flat → n ∈ T.flat) ∧ T.flat.drop i = S.flat ++ r
  | .leaf n, i, hs, hi => by
    have : i = 0 := by simp [Tr.flat] at hi; omega
    subst this
    exact ⟨.leaf n, [], hs, fun _ h => h, by simp⟩
  | .split n a b, 0, hs, hi => ⟨.split n a b, [], hs, fun _ h => h, by simp⟩
  | .split n a b, i + 1, hs, hi => by
    obtain ⟨h0, h1, h2⟩ := hs
    simp only [Tr.flat, List.length_cons, List.length_append] at hi
    simp only [Tr.flat, List.drop_succ_cons]
    rcases Nat.lt_or_ge i a.flat.length with h | h
    · obtain ⟨S, r, hS, hm, hd⟩ := sub_at h1 h
      refine ⟨S, r ++ b.flat, hS, fun n hn => by simp [hm n hn], ?_⟩
      rw [List.drop_append_of_le_length (by omega), hd, List.append_assoc]
    · obtain ⟨S, r, hS, hm, hd⟩ := sub_at h2 (show i - a.flat.length < b.flat.length by omega)
      refine ⟨S, r, hS, fun n hn => by simp [hm n hn], ?_⟩
      rw [List.drop_append, List.drop_eq_nil_of_le (by omega), List.nil_append, hd]
structure At (t : List NodeD) (i : Nat) (S : Tr) : Prop where
  shaped : S.shaped
  ok : ∀ n, n ∈ S.flat → nodeOk n = true
  drop : ∃ r, t.drop i = S.flat ++ r
theorem Valid.at_ {t : List NodeD} {T : Tr} (h : Valid t T) {i : Nat} (hi : i < t.length) : ∃ S, At t i S := by
  obtain ⟨hT, ho, rfl⟩ := h
  obtain ⟨S, r, hS, hm, hd⟩ := sub_at hT hi
  exact ⟨S, hS, fun n hn => ho n (hm n hn), r, hd⟩
theorem At.le {t : List NodeD} {i : Nat} {S : Tr} (h : At t i S) : i + S.flat.length ≤ t.length := by
  obtain ⟨r, hr⟩ := h.drop
  have := congrArg List.length hr
  have h0 := S.flat_pos
  rw [List.length_drop, List.length_append] at this
  omega
theorem At.lt {t : List NodeD} {i : Nat} {S : Tr} (h : At t i S) : i < t.length := by
  have := h.le
  have := S.flat_pos
  omega
theorem At.endI {t : List NodeD} {i : Nat} {S : Tr} (h : At t i S) : endI t i = (i + S.flat.length : Nat) := by
  obtain ⟨r, hr⟩ := h.drop
  have h1 := h.le
  have h2 := h.lt
  have h3 := congrArg List.length hr
  rw [List.length_drop, List.length_append] at h3
  rw [Go.Proofs.YthfhhldbglaieaaGreat.endI, if_pos ⟨by omega, by omega⟩, Int.toNat_natCast, hr, skipF_flat h.shaped h.ok (by omega)]
  simp only [endOfL]
  omega
theorem At.sEnd {t : List NodeD} {i : Nat} {S : Tr} (h : At t i S) : sEnd t i = (i + S.flat.length : Nat) := by
  obtain ⟨r, hr⟩ := h.drop
  have h1 := h.le
  have h3 := congrArg List.length hr
  rw [List.length_drop, List.length_append] at h3
  have := needGo_flat (T := S) (k := 0) (r := r) h.shaped
  rw [if_pos rfl] at this
  rw [Go.Proofs.YthfhhldbglaieaaGreat.sEnd, hr, this]
  simp only [endOfL]
  omega
theorem At.head {t : List NodeD} {i : Nat} {S : Tr} (h : At t i S) : S.flat.head? = some (gat encNode t i) := by
  obtain ⟨r, hr⟩ := h.drop
  rw [nat_drop h.lt] at hr
  cases S with
  | leaf n => simp [Tr.flat] at hr ⊢; exact hr.1.symm
  | split n a b => simp [Tr.flat] at hr ⊢; exact hr.1.symm
theorem At.parts {t : List NodeD} {i : Nat} {n : NodeD} {a b : Tr} (h : At t i (.split n a b)) : gat encNode t i = n ∧ At t (i + 1) a ∧ At t (i + 1 + a.flat.length) b := by
  obtain ⟨h0, h1, h2⟩ := h.shaped
  obtain ⟨r, hr⟩ := h.drop
  have hh := h.head
  simp [Tr.flat] at hh
  have hd : t.drop (i + 1) = a.flat ++ (b.flat ++ r) := by
    rw [← List.drop_drop, hr]
    simp [Tr.flat]
  refine ⟨hh.symm, ⟨h1, fun m hm => h.ok m (by simp [Tr.flat, hm]), _, hd⟩, ⟨h2, fun m hm => h.ok m (by simp [Tr.flat, hm]), r, ?_⟩⟩
  rw [← List.drop_drop, hd, List.drop_left]
def isSplit (t : List NodeD) (i : Nat) : Bool := decide ((gat encNode t i).Pane = 0)
theorem At.of_split {t : List NodeD} {i : Nat} {S : Tr} (h : At t i S) (hp : isSplit t i = true) : ∃ n a b, S = .split n a b := by
  have hh := h.head
  cases S with
  | leaf n =>
    simp [Tr.flat] at hh
    have := h.shaped
    simp only [Tr.shaped] at this
    rw [isSplit, ← hh] at hp
    exact absurd (by simpa using hp) this
  | split n a b => exact ⟨n, a, b, rfl⟩
theorem At.of_leaf {t : List NodeD} {i : Nat} {S : Tr} (h : At t i S) (hp : isSplit t i = false) : S = .leaf (gat encNode t i) := by
  have hh := h.head
  cases S with
  | leaf n => simp [Tr.flat] at hh; rw [hh]
  | split n a b =>
    simp [Tr.flat] at hh
    have := h.shaped.1
    rw [isSplit, ← hh] at hp
    exact absurd this (by simpa using hp)
def isOver (t : List NodeD) (at_ i : Nat) : Bool := isSplit t i && decide (endI t i > at_)
def lastI (p : Nat → Bool) : Nat → Int
  | 0 => -1
  | k + 1 => if p k = true then (k : Int) else lastI p k
def sizeR (n : NodeD) (r : RectD) : Int := if n.Down = true then r.H else r.W
def firstR (n : NodeD) (r : RectD) : RectD := if n.Down = true then { r with H := min n.First (r.H - 2) } else { r with W := min n.First (r.W - 2) }
def secondR (n : NodeD) (r : RectD) : RectD :=
  if n.Down = true then { r with Y := r.Y + min n.First (r.H - 2) + 1, H := r.H - min n.First (r.H - 2) - 1 } else { r with X := r.X + min n.First (r.W - 2) + 1, W := r.W - min n.First (r.W - 2) - 1 }
structure Fine (r : RectD) : Prop where
  pane : r.Pane = 0
  x : 0 ≤ r.X
  y : 0 ≤ r.Y
  w : 1 ≤ r.W
  h : 1 ≤ r.H
  xw : r.X + r.W ≤ 120
  yh : r.Y + r.H ≤ 120
theorem Fine.first {r : RectD} {n : NodeD} (h : Fine r) (hf : 1 ≤ n.First) (hs : 3 ≤ sizeR n r) : Fine (firstR n r) := by
  obtain ⟨h0, h1, h2, h3, h4, h5, h6⟩ := h
  unfold sizeR at hs
  unfold firstR
  split at hs <;> rename_i hd <;> simp only [hd] <;> constructor <;> simp <;> omega
theorem Fine.second {r : RectD} {n : NodeD} (h : Fine r) (hf : 1 ≤ n.First) (hs : 3 ≤ sizeR n r) : Fine (secondR n r) := by
  obtain ⟨h0, h1, h2, h3, h4, h5, h6⟩ := h
  unfold sizeR at hs
  unfold secondR
  split at hs <;> rename_i hd <;> simp only [hd] <;> constructor <;> simp <;> omega
def putL : Tr → RectD → List RectD × Bool
  | .leaf n, r => ([{ r with Pane := n.Pane }], true)
  | .split n a b, r =>
    if 3 ≤ sizeR n r then
      if (putL a (firstR n r)).2 = true then ({ r with Pane := n.Pane } :: ((putL a (firstR n r)).1 ++ (putL b (secondR n r)).1), (putL b (secondR n r)).2)
      else ({ r with Pane := n.Pane } :: (putL a (firstR n r)).1, false)
    else ([{ r with Pane := n.Pane }], false)
def placeS : Tr → RectD → List RectD × Bool
  | .leaf n, r => ([{ r with Pane := n.Pane }], true)
  | .split n a b, r => if 3 ≤ sizeR n r then ((placeS a (firstR n r)).1 ++ (placeS b (secondR n r)).1, (placeS a (firstR n r)).2 && (placeS b (secondR n r)).2) else ([], false)
def isLeafR (r : RectD) : Bool := decide (r.Pane ≠ 0)
theorem put_place : ∀ {T : Tr} {r : RectD}, T.shaped → (putL T r).2 = (placeS T r).2 ∧ ((placeS T r).2 = true → (putL T r).1.filter isLeafR = (placeS T r).1)
  | .leaf n, r, h => by
    simp only [Tr.shaped] at h
    simp [putL, placeS, isLeafR, h]
  | .split n a b, r, h => by
    obtain ⟨h0, h1, h2⟩ := h
    obtain ⟨e1, e2⟩ := put_place (T := a) (r := firstR n r) h1
    obtain ⟨e3, e4⟩ := put_place (T := b) (r := secondR n r) h2
    simp only [putL, placeS]
    by_cases hs : 3 ≤ sizeR n r
    · simp only [hs, if_true]
      cases ea : (placeS a (firstR n r)).2 with
      | false =>
        rw [ea] at e1
        simp [e1]
      | true =>
        rw [ea] at e1
        simp only [e1, if_true, Bool.true_and]
        refine ⟨e3, fun hb => ?_⟩
        rw [List.filter_cons, if_neg (by simp [isLeafR, h0]), List.filter_append, e2 ea, e4 hb]
    · simp [hs]
theorem putL_len : ∀ {T : Tr} {r : RectD}, (putL T r).1.length ≤ T.flat.length
  | .leaf n, r => by simp [putL, Tr.flat]
  | .split n a b, r => by
    have h1 := putL_len (T := a) (r := firstR n r)
    have h2 := putL_len (T := b) (r := secondR n r)
    simp only [putL, Tr.flat, List.length_cons, List.length_append]
    (repeat' split) <;> simp <;> omega
theorem placeS_len : ∀ {T : Tr} {r : RectD}, (placeS T r).1.length ≤ T.flat.length
  | .leaf n, r => by simp [placeS, Tr.flat]
  | .split n a b, r => by
    have h1 := placeS_len (T := a) (r := firstR n r)
    have h2 := placeS_len (T := b) (r := secondR n r)
    simp only [placeS, Tr.flat, List.length_cons, List.length_append]
    split <;> simp <;> omega
def cutOk (t : List NodeD) (p : Int) : Bool := treeOk t && decide (1 ≤ atL t p)
def upL (t : List NodeD) (p : Int) : Nat := (lastI (isOver t (atL t p).toNat) (atL t p).toNat).toNat
def cutL (t : List NodeD) (p : Int) : List NodeD :=
  if cutOk t p = true then t.take (upL t p) ++ (t.drop (upL t p + 1)).take ((atL t p).toNat - (upL t p + 1)) ++ t.drop ((atL t p).toNat + 1) else []
def parseF : Nat → List NodeD → Option (Tr × List NodeD)
  | 0, _ => none
  | _ + 1, [] => none
  | k + 1, n :: r => if n.Pane ≠ 0 then some (.leaf n, r) else match parseF k r with
    | none => none
    | some (a, r1) => match parseF k r1 with
      | none => none
      | some (b, r2) => some (.split n a b, r2)
theorem parseF_flat : ∀ {T : Tr} {k : Nat} {r : List NodeD}, T.shaped → T.flat.length ≤ k → parseF k (T.flat ++ r) = some (T, r)
  | .leaf n, k, r, hs, hk => by
    cases k with
    | zero => simp [Tr.flat] at hk
    | succ k =>
      simp only [Tr.shaped] at hs
      simp [Tr.flat, parseF, hs]
  | .split n a b, k, r, hs, hk => by
    cases k with
    | zero => simp [Tr.flat] at hk
    | succ k =>
      obtain ⟨h0, h1, h2⟩ := hs
      simp only [Tr.flat, List.length_cons, List.length_append] at hk
      have ha := parseF_flat (T := a) (k := k) (r := b.flat ++ r) h1 (by omega)
      have hb := parseF_flat (T := b) (k := k) (r := r) h2 (by omega)
      simp only [Tr.flat, List.cons_append, List.append_assoc, parseF, h0, ha, hb]
      simp
def theT (t : List NodeD) : Tr := match parseF t.length t with | some (T, _) => T | none => .leaf ⟨0, false, 0⟩
theorem theT_eq {t : List NodeD} {T : Tr} (h : Valid t T) : theT t = T := by
  obtain ⟨hT, _, rfl⟩ := h
  have := parseF_flat (T := T) (k := T.flat.length) (r := []) hT (Nat.le_refl _)
  rw [List.append_nil] at this
  rw [theT, this]
theorem theT_at {t : List NodeD} (h : treeOk t = true) : At t 0 (theT t) ∧ (theT t).flat = t ∧ (theT t).shaped := by
  obtain ⟨_, ⟨T, hv⟩, _⟩ := treeOk_iff.1 h
  rw [theT_eq hv]
  exact ⟨⟨hv.1, by rw [hv.2.2]; exact hv.2.1, [], by rw [hv.2.2]; simp⟩, hv.2.2, hv.1⟩
theorem fine0 {w h : Int} (hw : within w 1 120 = true) (hh : within h 1 120 = true) : Fine ⟨0, 0, 0, w, h⟩ := by
  rw [within_iff] at hw hh
  constructor <;> simp <;> omega
def sidesOk (t : List NodeD) (w h : Int) : Bool := treeOk t && within w 1 120 && within h 1 120
def placesOk (t : List NodeD) (w h : Int) : Bool := sidesOk t w h && (placeS (theT t) ⟨0, 0, 0, w, h⟩).2
def placesL (t : List NodeD) (w h : Int) : List RectD := if placesOk t w h = true then (placeS (theT t) ⟨0, 0, 0, w, h⟩).1 else []
def areasL (t : List NodeD) (w h : Int) : List RectD := if sidesOk t w h = true then (putL (theT t) ⟨0, 0, 0, w, h⟩).1 else []
theorem placesL_len (t : List NodeD) (w h : Int) : (placesL t w h).length ≤ 31 := by
  unfold placesL
  split
  · rename_i hp
    simp only [placesOk, sidesOk, Bool.and_eq_true] at hp
    have h1 := treeOk_len hp.1.1.1
    have h2 := placeS_len (T := theT t) (r := ⟨0, 0, 0, w, h⟩)
    rw [(theT_at hp.1.1.1).2.1] at h2
    omega
  · simp
theorem areasL_len (t : List NodeD) (w h : Int) : (areasL t w h).length ≤ 31 := by
  unfold areasL
  split
  · rename_i hp
    simp only [sidesOk, Bool.and_eq_true] at hp
    have h1 := treeOk_len hp.1.1
    have h2 := putL_len (T := theT t) (r := ⟨0, 0, 0, w, h⟩)
    rw [(theT_at hp.1.1).2.1] at h2
    omega
  · simp
theorem put_eq {t : List NodeD} {w h : Int} (ht : treeOk t = true) : (putL (theT t) ⟨0, 0, 0, w, h⟩).2 = (placeS (theT t) ⟨0, 0, 0, w, h⟩).2 := (put_place (theT_at ht).2.2).1
theorem areas_filter {t : List NodeD} {w h : Int} (hp : placesOk t w h = true) : (areasL t w h).filter (fun r => !decide (r.Pane = 0)) = placesL t w h := by
  have hp' := hp
  simp only [placesOk, Bool.and_eq_true] at hp'
  have hs := hp'.1
  simp only [sidesOk, Bool.and_eq_true] at hs
  rw [areasL, if_pos hp'.1, placesL, if_pos hp, ← (put_place (theT_at hs.1.1).2.2).2 hp'.2]
  congr 1
  funext r
  simp [isLeafR]
def placeAt (t : List NodeD) (w h p : Int) : Int := findI (fun r : RectD => decide (r.Pane = p)) (placesL t w h)
def placeR (t : List NodeD) (w h p : Int) : RectD := if 0 ≤ placeAt t w h p then gat encRect (placesL t w h) (placeAt t w h p).toNat else ⟨0, 0, 0, 0, 0⟩
theorem placeAt_lt (t : List NodeD) (w h p : Int) : -1 ≤ placeAt t w h p ∧ placeAt t w h p < (placesL t w h).length := findI_lt
structure Within (q r : RectD) : Prop where
  x0 : r.X ≤ q.X
  y0 : r.Y ≤ q.Y
  w1 : 1 ≤ q.W
  h1 : 1 ≤ q.H
  x1 : q.X + q.W ≤ r.X + r.W
  y1 : q.Y + q.H ≤ r.Y + r.H
theorem Within.trans {a b c : RectD} (h : Within a b) (k : Within b c) : Within a c :=
  ⟨by have := h.x0; have := k.x0; omega, by have := h.y0; have := k.y0; omega, h.w1, h.h1, by have := h.x1; have := k.x1; omega, by have := h.y1; have := k.y1; omega⟩
theorem filter_take {α : Type} {F : Enc α} {p : α → Bool} {xs : List α} {j : Nat} (hj : j < xs.length) : (xs.take (j + 1)).filter p = (xs.take j).filter p ++ (if p (gat F xs j) = true then [gat F xs j] else []) := by
  rw [List.take_add_one, gat_get (F := F) hj, List.filter_append]
  congr 1
  cases h : p (gat F xs j) <;> simp [h]
theorem filter_none {α : Type} {p : α → Bool} {xs : List α} (h : ∀ x, x ∈ xs → p x = false) : xs.filter (fun x => !p x) = xs := by
  rw [List.filter_eq_self]
  intro x hx
  simp [h x hx]
theorem set_take {α : Type} {zs : List α} {i : Nat} {x : α} (h : i < zs.length) : (zs.set i x).take (i + 1) = zs.take i ++ [x] := by
  have hl : (zs.set i x)[i]? = some x := by simp [h]
  rw [List.take_add_one, hl, List.take_set_of_le (Nat.le_refl i)]
  rfl
theorem gat_set_ne {α : Type} {F : Enc α} {zs : List α} {i k : Nat} {x : α} (h : k ≠ i) : gat F (zs.set i x) k = gat F zs k := by
  unfold gat
  simp [List.getD_eq_getElem?_getD, List.getElem?_set_ne (Ne.symm h)]
theorem gat_ext {α : Type} {F : Enc α} {a b : List α} (hl : a.length = b.length) (h : ∀ j, j < a.length → gat F a j = gat F b j) : a = b := by
 apply List.ext_getElem hl
 intro i h1 h2
 have e1 := gat_get (F := F) h1
 have e2 := gat_get (F := F) h2
 rw [List.getElem?_eq_getElem h1] at e1
 rw [List.getElem?_eq_getElem h2] at e2
 rw [Option.some.inj e1, Option.some.inj e2]
 exact h i h1
theorem u8_inj {a b : UInt8} (h : (a.toNat : Int) = (b.toNat : Int)) : a = b := UInt8.toNat_inj.1 (by omega)
def runeB (r : Int) : List UInt8 :=
 if shows r = false then [] else if r < 128 then [ub r] else if r < 2048 then [ub (192 + r / 64), ub (128 + r % 64)] else [ub (224 + r / 4096), ub (128 + r / 64 % 64), ub (128 + r % 64)]
theorem shows_iff {r : Int} : shows r = true ↔ (32 ≤ r ∧ r ≤ 126) ∨ (160 ≤ r ∧ r ≤ 65535 ∧ ¬ (55296 ≤ r ∧ r ≤ 57343)) := by
 simp [shows, within]; omega
def tlOk (l : List UInt8) : Bool := l.all fun x => decide (x.toNat / 64 = 2)
def tlN (l : List UInt8) : Nat := l.foldl (fun n x => 64 * n + x.toNat % 64) 0
theorem tlN_take {l : List UInt8} {i : Nat} (h : i < l.length) : tlN (l.take (i + 1)) = 64 * tlN (l.take i) + (gat encB l i).toNat % 64 := by
 unfold tlN
 rw [List.take_add_one, gat_get (F := encB) h, List.foldl_append]
 rfl
theorem tlOk_take {l : List UInt8} {i : Nat} (h : i < l.length) : tlOk (l.take (i + 1)) = (tlOk (l.take i) && decide ((gat encB l i).toNat / 64 = 2)) := by
 unfold tlOk
 rw [List.take_add_one, gat_get (F := encB) h, List.all_append]
 simp
theorem tlOk_bad {l : List UInt8} {i : Nat} (h : i < l.length) (hx : (gat encB l i).toNat / 64 ≠ 2) : tlOk l = false := by
 rw [← Bool.not_eq_true]
 intro hh
 unfold tlOk at hh
 rw [List.all_eq_true] at hh
 have := hh _ (gat_mem (F := encB) h)
 simp at this
 exact hx this
def tlV (l : List UInt8) : Nat := if tlOk l = true then tlN l else 0
theorem tlN_one (x : UInt8) : tlN [x] = x.toNat % 64 := by simp [tlN]
theorem tlN_two (x y : UInt8) : tlN [x, y] = 64 * (x.toNat % 64) + y.toNat % 64 := by simp [tlN]
def rcls (a : UInt8) : Nat := if 192 ≤ a.toNat ∧ a.toNat ≤ 223 then 2 else if 224 ≤ a.toNat ∧ a.toNat ≤ 239 then 3 else 1
def cand : List UInt8 → Nat → Int
 | a :: _, 1 => a.toNat
 | a :: b :: _, 2 => ((a.toNat : Int) - 192) * 64 + b.toNat - 128
 | a :: b :: c :: _, 3 => (((a.toNat : Int) - 224) * 64 + b.toNat - 128) * 64 + c.toNat - 128
 | _, _ => 0
def rtry (l : List UInt8) (s : Nat) : Bool := decide (s ≤ l.length) && decide (runeB (cand l s) = l.take s)
def runeL (l : List UInt8) : Option (Int × Nat) :=
 if rtry l 1 = true then some (cand l 1, 1) else if rtry l 2 = true then some (cand l 2, 2) else if rtry l 3 = true then some (cand l 3, 3) else none
def rvN : Option (Int × Nat) → Int
 | none => 0
 | some x => x.1
def rvS : Option (Int × Nat) → Nat
 | none => 0
 | some x => x.2
theorem ub_eq {n : Int} {a : UInt8} (h0 : 0 ≤ n) (h1 : n < 256) : ub n = a ↔ n = a.toNat := by
 constructor
 ·rintro rfl
  rw [ub_toNat]; omega
 ·intro h
  apply u8_inj
  rw [ub_toNat]; omega
theorem rtry1 {a : UInt8} {l : List UInt8} : rtry (a :: l) 1 = true ↔ 32 ≤ a.toNat ∧ a.toNat ≤ 126 := by
 have ha := a.toNat_lt
 simp only [rtry, cand, List.length_cons, Bool.and_eq_true, decide_eq_true_eq, List.take_succ_cons, List.take_zero]
 unfold runeB
 cases hs : shows (a.toNat : Int) with
 | false =>
  have : ¬ shows (a.toNat : Int) = true := by rw [hs]; decide
  rw [shows_iff] at this
  simp; omega
 | true =>
  have := shows_iff.1 hs
  have e : ub (a.toNat : Int) = a := (ub_eq (by omega) (by omega)).2 rfl
  rw [if_neg (by decide)]
  split
  ·rw [e]; simp; omega
  ·split <;> simp <;> omega
theorem rtry2 {a b : UInt8} {l : List UInt8} : rtry (a :: b :: l) 2 = true ↔ 194 ≤ a.toNat ∧ a.toNat ≤ 223 ∧ b.toNat / 64 = 2 ∧ 160 ≤ ((a.toNat : Int) - 192) * 64 + b.toNat % 64 := by
 have ha := a.toNat_lt
 have hb := b.toNat_lt
 simp only [rtry, cand, List.length_cons, Bool.and_eq_true, decide_eq_true_eq, List.take_succ_cons, List.take_zero]
 generalize hr : ((a.toNat : Int) - 192) * 64 + b.toNat - 128 = r
 unfold runeB
 cases hs : shows r with
 | false =>
  have : ¬ shows r = true := by rw [hs]; decide
  rw [shows_iff] at this
  simp; omega
 | true =>
  have := shows_iff.1 hs
  rw [if_neg (by decide)]
  split
  ·simp; omega
  ·split
   ·simp only [List.cons.injEq, and_true]
    rw [ub_eq (by omega) (by omega), ub_eq (by omega) (by omega)]
    omega
   ·simp; omega
theorem rtry3 {a b c : UInt8} {l : List UInt8} : rtry (a :: b :: c :: l) 3 = true ↔ (224 ≤ a.toNat ∧ a.toNat ≤ 239) ∧ b.toNat / 64 = 2 ∧ c.toNat / 64 = 2 ∧ 2048 ≤ ((a.toNat : Int) - 224) * 4096 + (b.toNat % 64) * 64 + c.toNat % 64 ∧ shows (((a.toNat : Int) - 224) * 4096 + (b.toNat % 64) * 64 + c.toNat % 64) = true := by
 have ha := a.toNat_lt
 have hb := b.toNat_lt
 have hc := c.toNat_lt
 simp only [rtry, cand, List.length_cons, Bool.and_eq_true, decide_eq_true_eq, List.take_succ_cons, List.take_zero]
 generalize hr : (((a.toNat : Int) - 224) * 64 + b.toNat - 128) * 64 + c.toNat - 128 = r
 unfold runeB
 rw [shows_iff]
 cases hs : shows r with
 | false =>
  have : ¬ shows r = true := by rw [hs]; decide
  rw [shows_iff] at this
  simp; omega
 | true =>
  have := shows_iff.1 hs
  rw [if_neg (by decide)]
  split
  ·simp; omega
  ·split
   ·simp; omega
   ·simp only [List.cons.injEq, and_true]
    rw [ub_eq (by omega) (by omega), ub_eq (by omega) (by omega), ub_eq (by omega) (by omega)]
    omega
theorem rtry_len {l : List UInt8} {s : Nat} (h : l.length < s) : rtry l s = false := by
 unfold rtry
 rw [show decide (s ≤ l.length) = false from decide_eq_false (by omega)]
 rfl
theorem rtry_cls {a : UInt8} {l : List UInt8} {s : Nat} (hs : s = 1 ∨ s = 2 ∨ s = 3) (h : rtry (a :: l) s = true) : rcls a = s := by
 have ha := a.toNat_lt
 unfold rcls
 rcases hs with rfl | rfl | rfl
 ·have := rtry1.1 h
  rw [if_neg (by omega), if_neg (by omega)]
 ·cases l with
  | nil => rw [rtry_len (by simp)] at h; cases h
  | cons b r =>
   have := rtry2.1 h
   rw [if_pos (by omega)]
 ·match l, h with
  | [], h => rw [rtry_len (by simp)] at h; cases h
  | [b], h => rw [rtry_len (by simp)] at h; cases h
  | b :: c :: r, h =>
   have := rtry3.1 h
   rw [if_neg (by omega), if_pos (by omega)]
theorem rcls_or (a : UInt8) : rcls a = 1 ∨ rcls a = 2 ∨ rcls a = 3 := by
 unfold rcls
 split
 ·exact .inr (.inl rfl)
 ·split
  ·exact .inr (.inr rfl)
  ·exact .inl rfl
theorem runeL_cls {a : UInt8} {l : List UInt8} : runeL (a :: l) = if rtry (a :: l) (rcls a) = true then some (cand (a :: l) (rcls a), rcls a) else none := by
 unfold runeL
 by_cases h1 : rtry (a :: l) 1 = true
 ·rw [rtry_cls (.inl rfl) h1, if_pos h1, if_pos h1]
 ·rw [if_neg h1]
  by_cases h2 : rtry (a :: l) 2 = true
  ·rw [rtry_cls (.inr (.inl rfl)) h2, if_pos h2, if_pos h2]
  ·rw [if_neg h2]
   by_cases h3 : rtry (a :: l) 3 = true
   ·rw [rtry_cls (.inr (.inr rfl)) h3, if_pos h3]
   ·rw [if_neg h3]
    rcases rcls_or a with h | h | h <;> rw [h]
    ·rw [if_neg h1]
    ·rw [if_neg h2]
    ·rw [if_neg h3]
theorem runeL_nil : runeL [] = none := by
 unfold runeL
 rw [rtry_len (by simp), rtry_len (by simp), rtry_len (by simp)]
 simp
def runeBeg : List UInt8 → Bool
 | [a] => within a.toNat 194 239
 | [a, b] => decide (b.toNat / 64 = 2) && decide (224 ≤ a.toNat) && decide (2048 ≤ ((a.toNat : Int) - 224) * 4096 + (b.toNat % 64 : Nat) * 64) && shows (((a.toNat : Int) - 224) * 4096 + (b.toNat % 64 : Nat) * 64)
 | _ => false
theorem rvS_iff {a : UInt8} {l : List UInt8} {s : Nat} (hs : s = 2 ∨ s = 3) : rvS (runeL (a :: l)) = s ↔ rtry (a :: l) s = true := by
 rw [runeL_cls]
 have h1 := @rtry1 a l
 have h2 : rtry (a :: l) 2 = true → 194 ≤ a.toNat ∧ a.toNat ≤ 223 := by
  intro h
  cases l with
  | nil => rw [rtry_len (by simp)] at h; cases h
  | cons b r => have := rtry2.1 h; omega
 have h3 : rtry (a :: l) 3 = true → 224 ≤ a.toNat ∧ a.toNat ≤ 239 := by
  intro h
  match l with
  | [] => rw [rtry_len (by simp)] at h; cases h
  | [b] => rw [rtry_len (by simp)] at h; cases h
  | b :: c :: r => have := rtry3.1 h; omega
 constructor
 ·intro h
  split at h
  ·rename_i hh
   simp only [rvS] at h
   rw [← h]; exact hh
  ·simp only [rvS] at h; omega
 ·intro h
  have e : rcls a = s := by
   unfold rcls
   rcases hs with rfl | rfl
   ·have := h2 h
    rw [if_pos (by omega)]
   ·have := h3 h
    rw [if_neg (by omega), if_pos (by omega)]
  rw [e, if_pos h]
  rfl
def begHit (l : List UInt8) (x : UInt8) : Bool := decide (rvS (runeL (l ++ [x])) = l.length + 1) || (decide (l.length = 1) && decide (rvS (runeL (l ++ [x, 129])) = 3))
theorem beg_iff {l : List UInt8} (hl : l.length = 1 ∨ l.length = 2) : runeBeg l = true ↔ ∃ x : Nat, 128 ≤ x ∧ x < 192 ∧ begHit l (UInt8.ofNat x) = true := by
 have hof : ∀ x : Nat, x < 256 → (UInt8.ofNat x).toNat = x := fun x hx => by rw [UInt8.toNat_ofNat', Nat.mod_eq_of_lt hx]
 have h129 : (129 : UInt8).toNat = 129 := rfl
 match l, hl with
 | [a], _ =>
  have ha := a.toNat_lt
  have hb : ∀ x, begHit [a] x = true ↔ rtry [a, x] 2 = true ∨ rtry [a, x, 129] 3 = true := fun x => by
   simp only [begHit, List.length_singleton, List.singleton_append, Bool.or_eq_true, Bool.and_eq_true, decide_eq_true_eq, true_and]
   rw [← rvS_iff (.inl rfl), ← rvS_iff (.inr rfl)]
  simp only [runeBeg, within_iff]
  constructor
  ·intro h
   by_cases h2 : a.toNat ≤ 223
   ·refine ⟨191, by omega, by omega, (hb _).2 (.inl (rtry2.2 ?_))⟩
    rw [hof _ (by omega)]
    omega
   ·by_cases h3 : a.toNat = 237
    ·refine ⟨159, by omega, by omega, (hb _).2 (.inr (rtry3.2 ?_))⟩
     rw [hof _ (by omega), h129, shows_iff]
     omega
    ·refine ⟨191, by omega, by omega, (hb _).2 (.inr (rtry3.2 ?_))⟩
     rw [hof _ (by omega), h129, shows_iff]
     omega
  ·rintro ⟨x, h1, h2, h3⟩
   rcases (hb _).1 h3 with h4 | h4
   ·have := rtry2.1 h4; omega
   ·have := rtry3.1 h4; omega
 | [a, b], _ =>
  have ha := a.toNat_lt
  have hbt := b.toNat_lt
  have hb : ∀ x, begHit [a, b] x = true ↔ rtry [a, b, x] 3 = true := fun x => by
   simp only [begHit, List.length_cons, List.length_nil, List.cons_append, List.nil_append, Bool.or_eq_true, Bool.and_eq_true, decide_eq_true_eq]
   rw [← rvS_iff (.inr rfl)]
   simp
  simp only [runeBeg, Bool.and_eq_true, decide_eq_true_eq, shows_iff]
  constructor
  ·intro h
   refine ⟨128, by omega, by omega, (hb _).2 (rtry3.2 ?_)⟩
   rw [hof _ (by omega), shows_iff]
   omega
  ·rintro ⟨x, h1, h2, h3⟩
   have := rtry3.1 ((hb _).1 h3)
   rw [hof _ (by omega), shows_iff] at this
   omega
def areArgs (l : List Int) : Bool := decide (l.length ≤ 8) && l.all fun n => within n 0 9999
def vpOk (v : VpD) : Bool :=
 if v.State = 0 then (!v.Mark && decide (v.Args.length = 0)) && (decide (v.Part.length = 0) || runeBeg v.Part)
 else if v.State = 1 then (!v.Mark && decide (v.Args.length = 0)) && decide (v.Part.length = 0)
 else if v.State = 2 ∨ v.State = 3 then areArgs v.Args && decide (v.Part.length = 0) else false
theorem areArgs_iff {l : List Int} : areArgs l = true ↔ l.length ≤ 8 ∧ ∀ x, x ∈ l → 0 ≤ x ∧ x ≤ 9999 := by
 simp only [areArgs, Bool.and_eq_true, decide_eq_true_eq, List.all_eq_true, within_iff]
theorem vpOk_csi {v : VpD} (hs : v.State = 2 ∨ v.State = 3) : vpOk v = (areArgs v.Args && decide (v.Part.length = 0)) := by
 unfold vpOk
 rw [if_neg (by omega), if_neg (by omega), if_pos hs]
theorem tlN_bnd {l : List UInt8} (h : l.length ≤ 2) : tlN l ≤ 4095 ∧ (l.length ≤ 1 → tlN l ≤ 63) ∧ (l.length = 0 → tlN l = 0) := by
 match l, h with
 | [], _ => simp [tlN]
 | [a], _ => simp only [tlN_one, List.length_cons, List.length_nil]; omega
 | [a, b], _ => simp only [tlN_two, List.length_cons, List.length_nil]; omega
theorem tlV_bnd {l : List UInt8} (h : l.length ≤ 2) : tlV l ≤ 4095 ∧ (l.length ≤ 1 → tlV l ≤ 63) ∧ (l.length = 0 → tlV l = 0) := by
 have := tlN_bnd h
 unfold tlV; split <;> omega
def candI (l : List UInt8) (s : Nat) : Nat → Int
 | 0 => (bat l 0).toNat - iat [0, 0, 192, 224] s
 | i + 1 => candI l s i * 64 + (bat l (i + 1)).toNat - 128
theorem candI_cand {l : List UInt8} {s : Nat} (h1 : 1 ≤ s) (h3 : s ≤ 3) (hl : s ≤ l.length) : candI l s (s - 1) = cand l s := by
 have : s = 1 ∨ s = 2 ∨ s = 3 := by omega
 rcases this with rfl | rfl | rfl
 ·match l, hl with
  | a :: r, _ => simp [candI, cand, gat, bat, iat]
 ·match l, hl with
  | a :: b :: r, _ => simp [candI, cand, gat, bat, iat]
 ·match l, hl with
  | a :: b :: c :: r, _ => simp [candI, cand, gat, bat, iat]
theorem candI_next {l : List UInt8} {s i : Nat} (h : 1 ≤ i) : candI l s (i + 1 - 1) = candI l s (i - 1) * 64 + (gat encB l i).toNat - 128 := by
 obtain ⟨j, rfl⟩ : ∃ j, i = j + 1 := ⟨i - 1, by omega⟩
 rfl
theorem t4_bnd (s : Nat) : 0 ≤ gat encI [0, 0, 192, 224] s ∧ gat encI [0, 0, 192, 224] s ≤ 224 := by
 match s with
 | 0 => decide
 | 1 => decide
 | 2 => decide
 | 3 => decide
 | _ + 4 => simp [iat, gat]; decide
theorem candI_bnd {l : List UInt8} {s i : Nat} (h : i ≤ 2) : -2000000 ≤ candI l s i ∧ candI l s i ≤ 2000000 := by
 have hi : 0 ≤ iat [0, 0, 192, 224] s ∧ iat [0, 0, 192, 224] s ≤ 224 := t4_bnd s
 have h0 := (bat l 0).toNat_lt
 have h1 := (bat l 1).toNat_lt
 have h2 := (bat l 2).toNat_lt
 generalize hx : iat [0, 0, 192, 224] s = x at hi
 have e0 : candI l s 0 = (bat l 0).toNat - x := by rw [← hx]; rfl
 have e1 : candI l s 1 = candI l s 0 * 64 + (bat l 1).toNat - 128 := rfl
 have e2 : candI l s 2 = candI l s 1 * 64 + (bat l 2).toNat - 128 := rfl
 have : i = 0 ∨ i = 1 ∨ i = 2 := by omega
 rcases this with rfl | rfl | rfl <;> omega
theorem rtry_iff {l : List UInt8} {s : Nat} (hl : s ≤ l.length) : (decide ((runeB (cand l s)).length = s) && decide (runeB (cand l s) = l.take s)) = rtry l s := by
 unfold rtry
 rw [show decide (s ≤ l.length) = true from decide_eq_true hl, Bool.true_and]
 by_cases h : runeB (cand l s) = l.take s
 ·rw [h]; simp [hl]
 ·simp [h]
theorem runeL_at {l : List UInt8} {s : Nat} (h : rtry l s = true) (h1 : 1 ≤ s) (h3 : s ≤ 3) (hn : ∀ t, 1 ≤ t → t < s → rtry l t = false) : runeL l = some (cand l s, s) := by
 unfold runeL
 have : s = 1 ∨ s = 2 ∨ s = 3 := by omega
 rcases this with rfl | rfl | rfl
 ·rw [if_pos h]
 ·rw [if_neg (by rw [hn 1 (by omega) (by omega)]; decide), if_pos h]
 ·rw [if_neg (by rw [hn 1 (by omega) (by omega)]; decide), if_neg (by rw [hn 2 (by omega) (by omega)]; decide), if_pos h]
theorem runeL_none {l : List UInt8} (hn : ∀ t, 1 ≤ t → t ≤ 3 → rtry l t = false) : runeL l = none := by
 unfold runeL
 rw [hn 1 (by omega) (by omega), hn 2 (by omega) (by omega), hn 3 (by omega) (by omega)]
 simp
theorem ub_nat {x : Nat} : ub (x : Int) = UInt8.ofNat x := by
 apply u8_inj
 rw [ub_toNat, UInt8.toNat_ofNat']
 omega
theorem beg_no {l : List UInt8} (hl : l.length = 1 ∨ l.length = 2) (h : ∀ x : Nat, 128 ≤ x → x < 192 → begHit l (ub x) = false) : runeBeg l = false := by
 rw [← Bool.not_eq_true, beg_iff hl]
 rintro ⟨x, h1, h2, h3⟩
 have := h x h1 h2
 rw [ub_nat, h3] at this
 cases this
theorem beg_yes {l : List UInt8} (hl : l.length = 1 ∨ l.length = 2) {x : Nat} (h1 : 128 ≤ x) (h2 : x < 192) (h : begHit l (ub x) = true) : runeBeg l = true := (beg_iff hl).2 ⟨x, h1, h2, by rwa [← ub_nat]⟩
theorem beg_len {l : List UInt8} (h : ¬ (l.length = 1 ∨ l.length = 2)) : runeBeg l = false := by
 match l, h with
 | [], _ => rfl
 | [_], h => simp at h
 | [_, _], h => simp at h
 | _ :: _ :: _ :: _, _ => rfl
theorem beg_two {b : List UInt8} (hb : b.length = 2) : (tlOk (b.drop 1) && decide (224 ≤ (((gat encB b 0).toNat : Nat) : Int)) && decide (2048 ≤ ((((gat encB b 0).toNat : Nat) : Int) - 224) * 4096 + ((tlV (b.drop 1) : Nat) : Int) * 64) && shows (((((gat encB b 0).toNat : Nat) : Int) - 224) * 4096 + ((tlV (b.drop 1) : Nat) : Int) * 64)) = runeBeg b := by
 match b, hb with
 | [x, y], _ =>
  have e1 : tlOk [y] = decide (y.toNat / 64 = 2) := by simp [tlOk]
  simp only [List.drop_succ_cons, List.drop_zero, runeBeg]
  by_cases h : y.toNat / 64 = 2
  ·have e2 : tlV [y] = y.toNat % 64 := by unfold tlV; rw [e1, if_pos (by simpa using h), tlN_one]
   rw [e1, e2]
   have e3 : gat encB [x, y] 0 = x := rfl
   rw [e3, show decide ((224 : Int) ≤ ((x.toNat : Nat) : Int)) = decide (224 ≤ x.toNat) from by simp only [decide_eq_decide]; omega]
  ·rw [e1, decide_eq_false h]; simp
theorem all_find {α : Type} {p : α → Bool} {l : List α} : (!decide (0 ≤ findI (fun x => !p x) l)) = l.all p := by
 rcases findI_cases (p := fun c => !p c) (xs := l) with ⟨h1, h2⟩ | ⟨i, hi, h1, h2, _⟩
 ·rw [h1]
  have : l.all p = true := by
   rw [List.all_eq_true]
   intro x hx
   simpa using h2 x hx
  rw [this]; decide
 ·rw [h1]
  have : l.all p = false := by
   rw [← Bool.not_eq_true]
   intro h
   rw [List.all_eq_true] at h
   have h3 := h _ (List.getElem_mem hi)
   rw [h3] at h2; cases h2
  rw [this]; simp
def vpBad (v : VpD) : Bool := ((decide (v.State < 0) || decide (3 < v.State)) || decide (8 < (v.Args.length : Int))) || (!(decide (v.State = 2) || decide (v.State = 3)) && (v.Mark || decide (0 < (v.Args.length : Int))))
theorem vpOk_bad {v : VpD} (h : vpBad v = true) : vpOk v = false := by
 rw [← Bool.not_eq_true]
 intro h2
 unfold vpOk at h2
 unfold vpBad at h
 simp only [Bool.or_eq_true, Bool.and_eq_true, decide_eq_true_eq, Bool.not_eq_true', Bool.or_eq_false_iff, decide_eq_false_iff_not] at h
 split at h2
 ·simp only [Bool.and_eq_true, Bool.not_eq_true', decide_eq_true_eq] at h2
  rcases h with ((h | h) | h) | ⟨_, h | h⟩
  ·omega
  ·omega
  ·omega
  ·rw [h2.1.1] at h; cases h
  ·omega
 ·split at h2
  ·simp only [Bool.and_eq_true, Bool.not_eq_true', decide_eq_true_eq] at h2
   rcases h with ((h | h) | h) | ⟨_, h | h⟩
   ·omega
   ·omega
   ·omega
   ·rw [h2.1.1] at h; cases h
   ·omega
  ·split at h2
   ·rw [Bool.and_eq_true, areArgs_iff] at h2
    rcases h with ((h | h) | h) | ⟨h, _⟩
    ·omega
    ·omega
    ·omega
    ·omega
   ·cases h2
theorem vpOk_arg {v : VpD} {j : Nat} (hj : j < v.Args.length) (h : within (gat encI v.Args j) 0 9999 = false) : vpOk v = false := by
 rw [← Bool.not_eq_true]
 intro h2
 unfold vpOk at h2
 split at h2
 ·simp only [Bool.and_eq_true, Bool.not_eq_true', decide_eq_true_eq] at h2; omega
 ·split at h2
  ·simp only [Bool.and_eq_true, Bool.not_eq_true', decide_eq_true_eq] at h2; omega
  ·split at h2
   ·rw [Bool.and_eq_true, areArgs_iff] at h2
    have h3 := h2.1.2 _ (gat_mem (F := encI) hj)
    rw [← within_iff, h] at h3; cases h3
   ·cases h2
theorem vpOk_end {v : VpD} (hb : vpBad v = false) (h : ∀ j, j < v.Args.length → within (gat encI v.Args j) 0 9999 = true) : vpOk v = (decide (v.Part.length = 0) || (decide (v.State = 0) && runeBeg v.Part)) := by
 unfold vpBad at hb
 simp only [Bool.or_eq_false_iff, Bool.and_eq_false_iff, decide_eq_false_iff_not, Bool.not_eq_false', Bool.or_eq_true, decide_eq_true_eq] at hb
 have ha : areArgs v.Args = true := by
  rw [areArgs_iff]
  refine ⟨by omega, fun x hx => ?_⟩
  obtain ⟨j, hj, rfl⟩ := List.mem_iff_getElem.1 hx
  have := h j hj
  rw [within_iff] at this
  have e := gat_get (F := encI) hj
  rw [List.getElem?_eq_getElem hj] at e
  rw [Option.some.inj e]; exact this
 by_cases h2 : v.State = 2 ∨ v.State = 3
 ·rw [vpOk_csi h2, ha, decide_eq_false (show ¬ v.State = 0 by omega)]; simp
 ·have h3 : v.Mark = false ∧ ¬ 0 < (v.Args.length : Int) := by
   rcases hb.2 with h4 | h4
   ·exact absurd h4 h2
   ·exact h4
  unfold vpOk
  have h0 : v.Args.length = 0 := by omega
  by_cases h5 : v.State = 0
  ·rw [if_pos h5, h3.1, decide_eq_true h0, decide_eq_true h5]; simp
  ·rw [if_neg h5, if_pos (by omega), h3.1, decide_eq_true h0, decide_eq_false h5]; simp
def isSize (w h : Int) : Bool := (within w 1 120 && within h 1 120) && decide (w * h ≤ 4000)
theorem isSize_iff {w h : Int} : isSize w h = true ↔ ((1 ≤ w ∧ w ≤ 120) ∧ 1 ≤ h ∧ h ≤ 120) ∧ w * h ≤ 4000 := by
 simp only [isSize, Bool.and_eq_true, within_iff, decide_eq_true_eq]
theorem mul_size {w h : Int} (hw : 1 ≤ w ∧ w ≤ 120) (hh : 1 ≤ h ∧ h ≤ 120) : 1 ≤ w * h ∧ w * h ≤ 14400 := by
 have h1 : 1 * 1 ≤ w * h := Int.mul_le_mul hw.1 hh.1 (by decide) (by omega)
 have h2 : w * h ≤ 120 * 120 := Int.mul_le_mul hw.2 hh.2 (by omega) (by decide)
 omega
theorem isSize_bnd {w h : Int} (hs : isSize w h = true) : (1 ≤ w ∧ w ≤ 120) ∧ (1 ≤ h ∧ h ≤ 120) ∧ 1 ≤ w * h ∧ w * h ≤ 4000 := by
 have h1 := isSize_iff.1 hs
 have h2 := mul_size h1.1.1 h1.1.2
 exact ⟨h1.1.1, h1.1.2, h2.1, h1.2⟩
abbrev blankC : CellD := ⟨32, ⟨0, 0, false, false, false⟩⟩
abbrev grid0 : GridD := ⟨0, 0, []⟩
def gridNew (w h : Int) : GridD := ⟨w, h, List.replicate (w * h).toNat blankC⟩
def gridOk (g : GridD) : Bool := (isSize g.W g.H && decide ((g.Cells.length : Int) = g.W * g.H)) && cellsOk g.Cells
def gridHas (g : GridD) (x y : Int) : Bool := within x 0 (g.W - 1) && within y 0 (g.H - 1)
def ascAt (l : List Int) (lo hi : Int) (i : Nat) : Bool := within (iat l i) lo hi && (decide (i = 0) || decide (iat l (i - 1) < iat l i))
def isAsc (l : List Int) (lo hi : Int) : Bool := (List.range l.length).all (ascAt l lo hi)
theorem isAsc_all {l : List Int} {lo hi : Int} (h : ∀ i, i < l.length → ascAt l lo hi i = true) : isAsc l lo hi = true := by
 unfold isAsc
 rw [List.all_eq_true]
 exact fun i hi => h i (List.mem_range.1 hi)
theorem isAsc_not {l : List Int} {lo hi : Int} {i : Nat} (hi' : i < l.length) (h : ascAt l lo hi i = false) : isAsc l lo hi = false := by
 rw [← Bool.not_eq_true]
 intro hh
 unfold isAsc at hh
 rw [List.all_eq_true] at hh
 rw [hh i (List.mem_range.2 hi')] at h
 cases h
def rowOk (r : RowD) : Bool := within r.Cells.length 1 120 && cellsOk r.Cells
def backOk (b : List RowD) (l : Int) : Bool := decide ((b.length : Int) ≤ l) && b.all rowOk
def gridFit (g : GridD) (w h : Int) : Bool := gridOk g && (decide (g.W = w) && decide (g.H = h))
def scrP1 (s : ScrD) : Bool := gridFit s.Main s.W s.H && gridFit s.Alt s.W s.H
def scrP2 (s : ScrD) : Bool := (gridHas s.Main s.X s.Y && gridHas s.Main s.SaveX s.SaveY) && ((!s.Wrap || decide (s.X = s.W - 1)) && (attrOk s.A.Fg s.A.Bg && attrOk s.SaveA.Fg s.SaveA.Bg))
def scrP3 (s : ScrD) : Bool := (decide (0 ≤ s.Top) && decide (s.Top ≤ s.Bot)) && (decide (s.Bot < s.H) && (!decide (s.Top = s.Bot) || decide (s.H = 1)))
def scrP4 (s : ScrD) : Bool := within s.Limit 0 100 && decide ((s.Back.length : Int) ≤ s.Limit)
def scrIn (s : ScrD) : Bool := (scrP1 s && scrP2 s) && (scrP3 s && scrP4 s)
def scrOk (s : ScrD) : Bool := (scrIn s && isAsc s.Tabs 0 (s.W - 1)) && s.Back.all rowOk
theorem gridOk_bnd {g : GridD} (h : gridOk g = true) : (1 ≤ g.W ∧ g.W ≤ 120) ∧ (1 ≤ g.H ∧ g.H ≤ 120) ∧ 1 ≤ g.W * g.H ∧ g.W * g.H ≤ 4000 := by
 unfold gridOk at h
 rw [Bool.and_eq_true, Bool.and_eq_true] at h
 exact isSize_bnd h.1.1
theorem gridFit_bnd {g : GridD} {w h : Int} (hf : gridFit g w h = true) : (1 ≤ w ∧ w ≤ 120) ∧ (1 ≤ h ∧ h ≤ 120) ∧ g.W = w ∧ g.H = h := by
 unfold gridFit at hf
 rw [Bool.and_eq_true, Bool.and_eq_true, decide_eq_true_eq, decide_eq_true_eq] at hf
 have := gridOk_bnd hf.1
 omega
theorem scrP1_bnd {s : ScrD} (h : scrP1 s = true) : (1 ≤ s.W ∧ s.W ≤ 120) ∧ (1 ≤ s.H ∧ s.H ≤ 120) ∧ s.Main.W = s.W ∧ s.Main.H = s.H ∧ s.Alt.W = s.W ∧ s.Alt.H = s.H := by
 unfold scrP1 at h
 rw [Bool.and_eq_true] at h
 have h1 := gridFit_bnd h.1
 have h2 := gridFit_bnd h.2
 omega
theorem scrOk_no {s : ScrD} (h : scrP1 s = false ∨ scrP2 s = false ∨ scrP3 s = false ∨ scrP4 s = false ∨ isAsc s.Tabs 0 (s.W - 1) = false ∨ s.Back.all rowOk = false) : scrOk s = false := by
 unfold scrOk scrIn
 rcases h with h | h | h | h | h | h <;> rw [h] <;> simp
theorem scrOk_yes {s : ScrD} (h1 : scrP1 s = true) (h2 : scrP2 s = true) (h3 : scrP3 s = true) : scrOk s = ((isAsc s.Tabs 0 (s.W - 1) && within s.Limit 0 100) && backOk s.Back s.Limit) := by
 unfold scrOk scrIn scrP4 backOk
 rw [h1, h2, h3]
 simp only [Bool.true_and]
 generalize within s.Limit 0 100 = a
 generalize isAsc s.Tabs 0 (s.W - 1) = b
 generalize decide ((s.Back.length : Int) ≤ s.Limit) = c
 generalize s.Back.all rowOk = d
 cases a <;> cases b <;> cases c <;> cases d <;> rfl
theorem scrOk_all {s : ScrD} (h1 : scrP1 s = true) (h2 : scrP2 s = true) (h3 : scrP3 s = true) (h4 : scrP4 s = true) (h5 : isAsc s.Tabs 0 (s.W - 1) = true) (h6 : s.Back.all rowOk = true) : scrOk s = true := by
 unfold scrOk scrIn
 rw [h1, h2, h3, h4, h5, h6]; rfl
def termOk (t : TermD) : Bool := vpOk t.P && scrOk t.S
def gridRes (w h : Int) : GridD := if isSize w h = true then gridNew w h else grid0
theorem all_gat {α β : Type} {F : Enc α} {f : α → β} {p : β → Bool} {l : List α} (h : ∀ j, j < l.length → p (f (gat F l j)) = true) : (l.map f).all p = true := by
 rw [List.all_map, List.all_eq_true]
 intro x hx
 obtain ⟨j, hj, rfl⟩ := List.mem_iff_getElem.1 hx
 have := h j hj
 rwa [show gat F l j = l[j] by simp [gat, List.getD, hj]] at this
theorem all_gat_not {α β : Type} {F : Enc α} {f : α → β} {p : β → Bool} {l : List α} {j : Nat} (hj : j < l.length) (h : p (f (gat F l j)) = false) : (l.map f).all p = false := by
 rw [← Bool.not_eq_true]
 intro hh
 rw [List.all_map, List.all_eq_true] at hh
 have h2 : p (f (gat F l j)) = true := hh _ (gat_mem hj)
 rw [h] at h2; cases h2
theorem findI_map {α β : Type} {f : α → β} {p : β → Bool} {l : List α} : findI p (l.map f) = findI (fun x => p (f x)) l := by
 unfold findI
 rw [List.findIdx?_map]
 rfl
def hasI (l : List Int) (x : Int) : Bool := decide (x ∈ l)
theorem hasI_find {l : List Int} {x : Int} : decide (0 ≤ findI (fun z => decide (x = z)) l) = hasI l x := by
 have h := all_find (p := fun z => !decide (x = z)) (l := l)
 simp only [Bool.not_not] at h
 have h2 : decide (0 ≤ findI (fun z => decide (x = z)) l) = !(l.all fun z => !decide (x = z)) := by rw [← h, Bool.not_not]
 rw [h2, Bool.eq_iff_iff]
 simp [hasI]
theorem hasI_not {l : List Int} {x : Int} (h : ∀ j, j < l.length → iat l j ≠ x) : x ∉ l := by
 intro hx
 obtain ⟨j, hj, rfl⟩ := List.mem_iff_getElem.1 hx
 exact h j hj (by simp [gat, List.getD, hj])
def lifeOk (life code pid : Int) : Bool :=
 if life = 1 then isId pid && decide (code = 0) else if life = 2 then within code 0 255 && decide (pid = 0) else if life = 3 then decide (code = 0) && decide (pid = 0) else false
def paneOk (p : PaneD) : Bool := (((isId p.Id && isCmd p.Cmd) && isCmd p.Dir) && termOk p.Term) && lifeOk p.Life p.Code p.Pid
theorem k22_ (n_Pane : Int) (n_Down : Bool) (n_First : Int) (w : World) :
    Calls Tryz.prog 168 #[.agg #[i64 n_Pane, .bool n_Down, i64 n_First]] w fun e w' => e = .returned (.bool (!decide (n_Pane = 0))) ∧ St w [] [] w' := by
 refine enter 6 Tryz.func168 rfl Tryz.ntmps168 rfl rfl ?_
 have hs1 := St.init w
 refine WC.sr (WL.bx hs1 rfl (fun b2 _ hs3 => WL.r 1 hs3 [] rfl (WL.nil (WC.r1 hs3 [0] rfl (WC.ret (rtv rfl rfl hs3 ?_))))))
 first | rfl | simp
theorem k23_ (m_ : Nat) : ∀ (A_t : Option Addr) (n_t c_t : Nat) (t : List NodeD) (at_ : Int) (w : World) (f_t : SlF encNode w A_t n_t t) (hn : n_t ≤ 268435456) (hm_ : (if at_ < 0 then 0 else ((n_t : Int) - at_).toNat) = m_), Calls Tryz.prog 165 #[.slice A_t n_t c_t, i64 at_] w fun e w' => e = .returned (.int .i64 (endI t at_)) ∧ St w [] [] w' := by
 induction m_ using Nat.strongRecOn with
 | ind m_ IH =>
  intro A_t n_t c_t t at_ w f_t hn hm_
  have hl := f_t.len
  have hr := @endI_range t (at_ + 1)
  refine enter 47 Tryz.func165 rfl Tryz.ntmps165 rfl rfl ?_
  have hs1 := St.init w
  refine WC.r1 hs1 [] rfl (WC.seq (fun K2 hK2 => WC.sr (WL.r 3 hs1 [] rfl (WL.pO tbk 4 Acts.nil hs1 [] rfl rfl rfl rfl (fun g_ => trivial) (WL.nil ?_)))))
  refine WC.cq rfl (fun h3 qh3 => ?_) (fun h3 qh3 => ?_)
  ·refine WC.r1 hs1 [] rfl (WC.ret (tkR ?_))
   clear hK2
   refine rtv rfl rfl hs1 ?_
   rw [endI_out (by (try simp at qh3); omega)]
  obtain ⟨i, rfl⟩ : ∃ i : Nat, at_ = (i : Int) := ⟨at_.toNat, by omega⟩
  have hi : i < t.length := by omega
  rw [if_neg (by omega)] at hm_
  refine WC.skip (hK2 _ _ (WC.seq (fun K4 hK4 => WC.sr (WL.r 2 hs1 [] rfl ?_))))
  refine WL.val rfl rfl rfl (Run.idxK (i) Tryz.runUnderlying56 Tryz.sizeOf103 rfl rfl rfl ?_ ?_ ?_) ?_
  · exact SlF.some_ (SlF.st0 f_t hs1)
  · omega
  · omega
  refine WL.val rfl rfl rfl (Run.loadA Tryz.isAgg103 Tryz.sizeOf103 rfl rfl (SlF.whole (SlF.st0 f_t hs1) ?_)) ?_
  · omega
  refine WL.al hs1 Tryz.zeroValue103 rfl rfl (fun b5 _ hs6 => WL.st tbk hs6 0 rfl rfl (fun _ hs7 => WL.nil (WC.block (WC.sr (WL.r 1 hs7 [0] rfl (WL.cl Tryz.call168 rfl (k22_ _ _ _ _) ?_))))))
  rintro _ whs8 ⟨rfl, hs8⟩
  replace hs8 := hs7.call0 hs8
  refine ⟨_, rfl, WL.r 1 hs8 [] rfl (WL.nil (WC.cq rfl (fun h9 qh9 => ?_) (fun h9 qh9 => ?_)))⟩
  ·have hp : (gat encNode t i).Pane ≠ 0 := by simpa using qh9
   refine WC.seq (fun K10 hK10 => WC.sr (WL.r 2 hs8 [0] rfl (WL.cl Tryz.call59 rfl (k1_ _ _) ?_)))
   rintro _ whs11 ⟨rfl, hs11⟩
   replace hs11 := hs8.call0 hs11
   refine ⟨_, rfl, WL.r 2 hs11 [] rfl (WL.pO tbk 2 Acts.nil hs11 [0] rfl rfl rfl rfl (fun g_ => ⟨rfl, trivial⟩) (WL.r 1 hs11 [] rfl (WL.pO tbk 3 Acts.nil hs11 [0] rfl rfl rfl rfl (fun g_ => ⟨rfl, trivial⟩) (WL.nil (WC.cq rfl (fun h12 qh12 => ?_) (fun h12 qh12 => ?_))))))⟩
   ·refine WC.r1 hs11 [] rfl (WC.ret (tkR (ibR (tkR ?_))))
    clear hK10 hK4
    refine rtv rfl rfl hs11 ?_
    rw [endI_leaf hi hp, if_neg (by simp [leafOk]; simp at qh12; grind)]
   refine WC.skip (hK10 _ _ (WC.r1 hs11 [] rfl (WC.ret (ibR (tkR ?_)))))
   clear hK4
   refine rtv rfl rfl hs11 ?_
   rw [endI_leaf hi hp, if_pos (by simp [leafOk]; (try simp at qh12); grind)]
  have hp : (gat encNode t i).Pane = 0 := by simpa using qh9
  refine WC.sr (WL.r 2 hs8 [0] rfl (WL.cl Tryz.call58 rfl (k0_ _ _ _ _) ?_))
  rintro _ whs13 ⟨rfl, hs13⟩
  replace hs13 := hs8.call0 hs13
  refine ⟨_, rfl, WL.r 2 hs13 [] rfl (WL.nil (WC.cq rfl (fun h14 qh14 => ?_) (fun h14 qh14 => ?_)))⟩
  ·refine WC.r1 hs13 [] rfl (WC.ret (ibR (tkR ?_)))
   clear hK4
   refine rtv rfl rfl hs13 ?_
   rw [endI_bad hi hp (within_not.2 qh14)]
  refine WC.skip (hK4 _ _ (WC.sr (WL.r 4 hs13 [] rfl ?_)))
  refine WL.cl Tryz.call165 rfl (IH _ ?_ _ _ _ _ _ _ (SlF.st0 f_t hs13) ?_ rfl) ?_
  · (rw [← hm_]; (repeat' split) <;> omega)
  · exact hn
  rintro _ whs15 ⟨rfl, hs15⟩
  replace hs15 := hs13.call0 hs15
  refine ⟨_, rfl, WL.cl Tryz.call165 rfl (IH _ ?_ _ _ _ _ _ _ (SlF.st0 f_t hs15) ?_ rfl) ?_⟩
  · (rw [← hm_]; (repeat' split) <;> omega)
  · exact hn
  rintro _ whs16 ⟨rfl, hs16⟩
  replace hs16 := hs15.call0 hs16
  refine ⟨_, rfl, WL.r 1 hs16 [] rfl (WL.nil (WC.ret (rtv rfl rfl hs16 ?_)))⟩
  rw [endI_split hi hp (within_iff.2 qh14)]
theorem k24_ (A_t : Option Addr) (n_t c_t : Nat) (t : List NodeD) (at_ : Int) (w : World) (f_t : SlF encNode w A_t n_t t) (hn : n_t ≤ 268435456) :
    Calls Tryz.prog 165 #[.slice A_t n_t c_t, i64 at_] w fun e w' => e = .returned (.int .i64 (endI t at_)) ∧ St w [] [] w' := k23_ _ A_t n_t c_t t at_ w f_t hn rfl
theorem k25_ (A_t : Option Addr) (n_t c_t : Nat) (t : List NodeD) (w : World) (f_t : SlF encNode w A_t n_t t) (hn : n_t ≤ 268435456) :
    Calls Tryz.prog 107 #[.slice A_t n_t c_t] w fun e w' => ∃ A c L1, e = .returned (.slice A (panesL t).length c) ∧ St w [] L1 w' ∧ OwnF encI 3 (.slice A (panesL t).length c) (panesL t) L1 := by
 have hl := f_t.len
 refine enter 22 Tryz.func107 rfl Tryz.ntmps107 rfl rfl ?_
 have hs1 := St.init w
 refine WC.r1 hs1 [] rfl (WC.sr (WL.buildF (F := encI) hs1 ([]) Tryz.runUnderlying60 Tryz.sizeOf3 Tryz.zeroValue3 rfl rfl rfl rfl rfl rfl rfl rfl rfl rfl rfl rfl (fun A5 c6 L2 whs3 hs3 ho4 => WL.r 1 hs3 [] rfl (WL.nil (WC.seq (fun K7 hK7 => WC.r1 hs3 [] rfl (WC.block ?_)))))))
 refine WC.lO [2, 7, 8] rfl hs3 (fun k_ f L_ => ∃ (zs : List Int) (i : Nat) (A8 : Option Addr) (c9 : Nat), k_ = n_t - i ∧ (i ≤ n_t) ∧ (zs = panesL (t.take i)) ∧ OwnF encI 3 (.slice A8 (zs.length) c9) (zs) L_ ∧ Sub [(3, .slice A8 (zs.length) c9), (9, .int .i64 i)] f) (((fun (zs : List Int) (i : Nat) => n_t - i) ([]) (0))) ?_ ?_
 ·refine ⟨[], 0, _, _, rfl, ?_, ?_, ho4, ⟨rfl, rfl, trivial⟩⟩
  · exact Nat.zero_le _
  · simp [panesL]
 clear hs3
 rintro _ f w L10 ⟨zs, i, A8, c9, rfl, p0, p1, ho11, hG⟩ hF hs12
 refine WC.sub _ (hG.app hF) ?_
 clear hG hF
 have hzl : zs.length ≤ n_t := by rw [p1]; have := panesL_len (t.take i); rw [List.length_take] at this; omega
 refine WC.r1 hs12 [] rfl (WC.seq (fun K13 hK13 => ?_))
 refine WC.cD rfl (fun qh14 => ?_) (fun qh14 => ?_)
 ·refine WC.skip (hK13 _ _ (WC.seq (fun K15 hK15 => WC.block (WC.sr ?_))))
  refine WL.val rfl rfl rfl (Run.idxN Tryz.runUnderlying56 Tryz.sizeOf103 rfl rfl rfl ?_ ?_ ?_) ?_
  · exact SlF.some_ (SlF.st0 f_t hs12)
  · omega
  · omega
  refine WL.val rfl rfl rfl (Run.loadA Tryz.isAgg103 Tryz.sizeOf103 rfl rfl (SlF.whole (SlF.st0 f_t hs12) ?_)) ?_
  · omega
  refine WL.al hs12 Tryz.zeroValue103 rfl rfl (fun b16 _ hs17 => WL.st tbk hs17 0 rfl rfl (fun _ hs18 => WL.nil (WC.sr (WL.r 1 hs18 [0] rfl (WL.cl Tryz.call168 rfl (k22_ _ _ _ _) ?_)))))
  rintro _ whs19 ⟨rfl, hs19⟩
  replace hs19 := hs18.call0 hs19
  refine ⟨_, rfl, WL.nil (WC.cq rfl (fun h20 qh20 => ?_) (fun h20 qh20 => ?_))⟩
  ·have hp : (gat encNode t i).Pane ≠ 0 := by (try simp at qh20); omega
   refine WC.region (WL.r 3 hs19 [0] rfl (WL.buildSlice hs19 Tryz.runUnderlying60 Tryz.sizeOf3 Tryz.zeroValue3 rfl rfl rfl rfl rfl rfl rfl rfl rfl rfl (fun b21 whs22 hs22 => ?_)))
   refine WL.appendG (hs22.fr L10) ho11 (srcI1 Tryz.underlying60 (hs22.own _ (nthL_mem (i := 0) rfl)).1) Tryz.underlying60 inf3 rfl rfl rfl rfl rfl rfl rfl rfl rfl rfl ?_ (fun A26 c27 L23 whs24 hs24 ho25 => ?_)
   · simp; omega
   replace hs24 := St.back [_, _] hs24
   refine WL.r 1 hs24 [] rfl (WL.nil (hK15 _ _ (WC.region (WL.r 2 hs24 [] rfl (WL.nil (tkN ?_))))))
   replace hs24 := hs24.d1.d1
   refine ⟨sbF rfl, _, hs24, _, ?_, _, i + 1, _, _, rfl, ?_, ?_, ho25, ⟨rfl, rfl, trivial⟩⟩
   · omega
   · omega
   · rw [panesL_take (by omega), p1]; first | (rw [if_pos hp]) | (rw [if_neg (by simpa using hp), List.append_nil])
  have hp : (gat encNode t i).Pane = 0 := by simpa using qh20
  refine WC.skip (hK15 _ _ (WC.region (WL.r 2 hs19 [] rfl (WL.nil (tkN ?_)))))
  replace hs19 := hs19.d1
  refine ⟨sbF rfl, _, hs19, _, ?_, _, i + 1, _, _, rfl, ?_, ?_, ho11, ⟨rfl, rfl, trivial⟩⟩
  · omega
  · omega
  · rw [panesL_take (by omega), p1]; first | (rw [if_pos hp]) | (rw [if_neg (by simpa using hp), List.append_nil])
 refine WC.exit (hK7 _ _ (WC.r1 hs12 [] rfl (WC.ret (retV1 rfl (resV.tmp rfl) ?_))))
 have hx_ := OwnF.eqOf (xs := panesL t) ho11 (by rw [p1, List.take_of_length_le (by omega)])
 rw [← hx_]
 first | exact ⟨_, _, _, rfl, (St.keep1 hs12), ho11⟩ | exact ⟨A8, c9, _, by rw [OwnF.len_ ho11], (St.keep1 hs12), by rw [OwnF.len_ ho11]; exact ho11⟩
theorem k26_ (A_t : Option Addr) (n_t c_t : Nat) (t : List NodeD) (at_ : Nat) (w : World) (f_t : SlF encNode w A_t n_t t) (hn : n_t ≤ 268435456) (ha : at_ ≤ 1099511627776) :
    Calls Tryz.prog 161 #[.slice A_t n_t c_t, .int .i64 at_] w fun e w' => e = .returned (.int .i64 (sEnd t at_)) ∧ St w [] [] w' := by
 have hl := f_t.len
 refine enter 28 Tryz.func161 rfl Tryz.ntmps161 rfl rfl ?_
 have hs1 := St.init w
 refine WC.r1 hs1 [] rfl (WC.r1 hs1 [] rfl (WC.seq (fun K2 hK2 => WC.r1 hs1 [] rfl (WC.block ?_))))
 refine WC.lS [0] rfl hs1 (fun k_ f w' => ∃ (i k : Nat), k_ = n_t - i ∧ (at_ ≤ i) ∧ (1 ≤ k) ∧ (k ≤ 1 + (i - at_)) ∧ (i ≤ n_t ∨ i = at_) ∧ (needGo 1 (t.drop at_) = needGo k (t.drop i)) ∧ Sub [(6, .int .i64 i), (5, .int .i64 k)] f) ((fun (i k : Nat) => n_t - i) (at_) (1)) ?_ ?_
 ·refine ⟨at_, 1, rfl, ?_, ?_, ?_, ?_, ?_, ⟨rfl, ?_, trivial⟩⟩
  · exact Nat.le_refl _
  · exact Nat.le_refl _
  · omega
  · exact Or.inr rfl
  · rfl
  · rfl
 clear hs1
 rintro _ f w ⟨i, k, rfl, p0, p1, p2, p3, p4, hG⟩ hF hs3
 refine WC.sub _ (hG.app hF) ?_
 clear hG hF
 refine WC.seq (fun K4 hK4 => WC.r1 hs3 [] rfl ?_)
 refine WC.cD rfl (fun qh5 => ?_) (fun qh5 => ?_)
 ·refine WC.skip (hK4 _ _ (WC.seq (fun K6 hK6 => WC.block (WC.seq (fun K7 hK7 => WC.sr (WL.r 2 hs3 [] rfl ?_))))))
  refine WL.val rfl rfl rfl (Run.idxN Tryz.runUnderlying56 Tryz.sizeOf103 rfl rfl rfl ?_ ?_ ?_) ?_
  · exact SlF.some_ (SlF.st0 f_t hs3)
  · omega
  · omega
  refine WL.val rfl rfl rfl (Run.fieldO Tryz.runUnderlying103 rfl rfl rfl Tryz.sizeOf3 rfl) (WL.val rfl rfl rfl (Run.load Tryz.isAgg3 rfl rfl (SlF.fld (SlF.st0 f_t hs3) ?_ rfl)) ?_)
  · omega
  refine WL.r 1 hs3 [] rfl (WL.nil (WC.cD rfl (fun qh8 => ?_) (fun qh8 => ?_)))
  ·have hp : (gat encNode t i).Pane = 0 := qh8
   refine WC.region (WL.r 3 hs3 [] rfl (WL.nil (hK7 _ _ (WC.r1 hs3 [] rfl ?_))))
   refine WC.cD rfl (fun qh9 => ?_) (fun qh9 => ?_)
   ·refine WC.r1 hs3 [] rfl (WC.ret (ibR (tkR (tkR (ibR (tkR ?_))))))
    clear hK6 hK2
    refine rtv rfl rfl hs3 ?_
    rw [sEnd, p4, nat_drop (by omega), needGo]; first | (exfalso; omega) | (rw [if_neg hp, if_pos (by omega)]; simp [endOfL]; omega)
   refine WC.skip (hK6 _ _ (WC.region (WL.r 3 hs3 [] rfl (WL.nil (tkN ?_)))))
   refine ⟨sbF rfl, hs3, _, ?_, i + 1, (k + 1), rfl, ?_, ?_, ?_, ?_, ?_, ⟨rfl, ?_, trivial⟩⟩
   · omega
   · omega
   · omega
   · omega
   · omega
   · rw [p4, nat_drop (by omega), needGo]; first | (rw [if_pos hp, if_neg (by omega)]) | (rw [if_neg hp, if_neg (by omega)])
   · first | rfl | exact congrArg (fun z => some (Value.int _ z)) (by omega)
  have hp : ¬ (gat encNode t i).Pane = 0 := qh8
  refine WC.region (WL.r 3 hs3 [] rfl (WL.nil (hK7 _ _ (WC.r1 hs3 [] rfl ?_))))
  refine WC.cD rfl (fun qh10 => ?_) (fun qh10 => ?_)
  ·refine WC.r1 hs3 [] rfl (WC.ret (ibR (tkR (tkR (ibR (tkR ?_))))))
   clear hK6 hK2
   refine rtv rfl rfl hs3 ?_
   rw [sEnd, p4, nat_drop (by omega), needGo]; first | (exfalso; omega) | (rw [if_neg hp, if_pos (by omega)]; simp [endOfL]; omega)
  refine WC.skip (hK6 _ _ (WC.region (WL.r 3 hs3 [] rfl (WL.nil (tkN ?_)))))
  refine ⟨sbF rfl, hs3, _, ?_, i + 1, (k - 1), rfl, ?_, ?_, ?_, ?_, ?_, ⟨rfl, ?_, trivial⟩⟩
  · omega
  · omega
  · omega
  · omega
  · omega
  · rw [p4, nat_drop (by omega), needGo]; first | (rw [if_pos hp, if_neg (by omega)]) | (rw [if_neg hp, if_neg (by omega)])
  · first | rfl | exact congrArg (fun z => some (Value.int _ z)) (by omega)
 refine WC.exit (hK2 _ _ (WC.r1 hs3 [] rfl (WC.ret (rtv rfl rfl hs3 ?_))))
 rw [sEnd, p4, List.drop_eq_nil_of_le (by omega)]; simp [needGo, endOfL]
theorem k27_ (A_s : Option Addr) (n_s c_s : Nat) (s : List Int) (w : World) (f_s : SlF encI w A_s n_s s) (hn : n_s ≤ 268435456) :
    Calls Tryz.prog 149 #[.slice A_s n_s c_s] w fun e w' => ∃ A c L1, e = .returned (.slice A (s).length c) ∧ St w [] L1 w' ∧ OwnF encI 3 (.slice A (s).length c) (s) L1 := by
 have hl := f_s.len
 refine enter 8 Tryz.func149 rfl Tryz.ntmps149 rfl rfl ?_
 have hs1 := St.init w
 refine WC.r1 hs1 [] rfl (WC.seq (fun K2 hK2 => WC.sr (WL.r 1 hs1 [] rfl (WL.val rfl rfl rfl (Run.eqlNil Tryz.underlying60 rfl rfl rfl) (WL.nil ?_)))))
 refine WC.cq rfl (fun h3 qh3 => ?_) (fun h3 qh3 => ?_)
 ·obtain rfl : A_s = none := by simpa using qh3
  have h0 : n_s = 0 := SlF.none_ f_s
  have hs : s = [] := List.eq_nil_of_length_eq_zero (by omega)
  refine WC.r1 hs1 [] rfl (WC.ret (tkR ?_))
  clear hK2
  refine retV1 rfl (resV.tmp rfl) ?_
  have hx_ := OwnF.eqOf (xs := s) (OwnF.nil encI 3) (by rw [hs])
  rw [← hx_]
  exact ⟨_, _, _, rfl, hs1.nil, (OwnF.nil encI 3)⟩
 refine WC.skip (hK2 _ _ (WC.sr (WL.buildF (F := encI) hs1 ([]) Tryz.runUnderlying60 Tryz.sizeOf3 Tryz.zeroValue3 rfl rfl rfl rfl rfl rfl rfl rfl rfl rfl rfl rfl (fun A7 c8 L4 whs5 hs5 ho6 => WL.r 1 hs5 [] rfl ?_))))
 refine WL.appendG hs5 ho6 (SlF.src (SlF.st0 f_s hs5) Tryz.underlying60) Tryz.underlying60 inf3 rfl rfl rfl rfl rfl rfl rfl rfl rfl rfl ?_ (fun A12 c13 L9 whs10 hs10 ho11 => ?_)
 · simp; omega
 refine WL.r 1 hs10 [] rfl (WL.nil (WC.ret (retV1 rfl (resV.tmp rfl) ?_)))
 have hx_ := OwnF.eqOf (xs := s) ho11 (by simp)
 rw [← hx_]
 first | exact ⟨_, _, _, rfl, (St.keep1 hs10), ho11⟩ | exact ⟨A12, c13, _, by rw [OwnF.len_ ho11], (St.keep1 hs10), by rw [OwnF.len_ ho11]; exact ho11⟩
theorem k28_ (A_s : Option Addr) (n_s c_s : Nat) (s : List Int) (x : Int) (w : World) (f_s : SlF encI w A_s n_s s) (hn : n_s ≤ 1099511627776) :
    Calls Tryz.prog 105 #[.slice A_s n_s c_s, i64 x] w fun e w' => e = .returned (.int .i64 (findI (fun z => decide (x = z)) s)) ∧ St w [] [] w' := by
 refine enter 19 Tryz.func105 rfl Tryz.ntmps105 rfl rfl ?_
 have hs1 := St.init w
 refine WC.r1 hs1 [] rfl (WC.seq (fun K2 hK2 => WC.r1 hs1 [] rfl (WC.block ?_)))
 refine WC.lS [0, 1, 7] rfl hs1 (fun k_ f w' => ∃ (i : Nat), k_ = n_s - i ∧ (i ≤ n_s) ∧ (∀ j, j < i → (fun z => decide (x = z)) (iat s j) = false) ∧ Sub [(8, .int .i64 i)] f) ((fun (i : Nat) => n_s - i) (0)) ?_ ?_
 ·refine ⟨0, rfl, ?_, ?_, ⟨rfl, trivial⟩⟩
  · exact Nat.zero_le _
  · exact fun j hj => absurd hj (by omega)
 clear hs1
 rintro _ f w ⟨i, rfl, p0, p1, hG⟩ hF hs3
 refine WC.sub _ (hG.app hF) ?_
 clear hG hF
 refine WC.r1 hs3 [] rfl (WC.seq (fun K4 hK4 => ?_))
 refine WC.cq rfl (fun h5 qh5 => ?_) (fun h5 qh5 => ?_)
 ·refine WC.skip (hK4 _ _ (WC.seq (fun K6 hK6 => WC.block (WC.r1 hs3 [] rfl (WC.sr (WL.r 3 hs3 [] rfl ?_))))))
  refine WL.val rfl rfl rfl (Run.idxN Tryz.runUnderlying60 Tryz.sizeOf3 rfl rfl rfl ?_ ?_ ?_) ?_
  · exact SlF.some_ (SlF.st0 f_s hs3)
  · omega
  · omega
  refine WL.val rfl rfl rfl (Run.load Tryz.isAgg3 rfl rfl (SlF.one1 (SlF.st0 f_s hs3) ?_ rfl)) ?_
  · omega
  refine WL.r 1 hs3 [] rfl (WL.nil (WC.cq rfl (fun h7 qh7 => ?_) (fun h7 qh7 => ?_)))
  ·refine WC.r1 hs3 [] rfl (WC.ret (ibR (tkR (tkR (ibR (tkR ?_))))))
   clear hK6 hK2
   refine rtv rfl rfl hs3 ?_
   rw [findI_some (F := encI) (i := i) (by rw [f_s.len]; omega) p1 h7]
  refine WC.skip (hK6 _ _ (WC.region (WL.r 2 hs3 [] rfl (WL.nil (tkN ?_)))))
  refine ⟨sbF rfl, hs3, _, ?_, i + 1, rfl, ?_, ?_, ⟨rfl, trivial⟩⟩
  · omega
  · omega
  · intro j hj; rcases Nat.lt_or_ge j i with h_ | h_
    · exact p1 j h_
    · obtain rfl : j = i := by omega
      exact h7
 refine WC.exit (hK2 _ _ (WC.r1 hs3 [] rfl (WC.ret (rtv rfl rfl hs3 ?_))))
 rw [findI_none (F := encI) (fun j hj => p1 j (by rw [f_s.len] at hj; omega))]
theorem k29_ (A_s : Option Addr) (n_s c_s : Nat) (s : List Int) (x : Int) (w : World) (f_s : SlF encI w A_s n_s s) (hn : n_s ≤ 549755813888) :
    Calls Tryz.prog 46 #[.slice A_s n_s c_s, i64 x] w fun e w' => e = .returned (.bool (hasI s x)) ∧ St w [] [] w' := by
 refine enter 9 Tryz.func46 rfl Tryz.ntmps46 rfl rfl ?_
 have hs1 := St.init w
 refine WC.r1 hs1 [] rfl (WC.sr (WL.r 2 hs1 [] rfl (WL.cl Tryz.call105 rfl (k28_ _ _ _ _ _ _ (SlF.st0 f_s hs1) ?_) ?_)))
 · first | assumption | rfl | omega
 rintro _ whs2 ⟨rfl, hs2⟩
 replace hs2 := hs1.call0 hs2
 refine ⟨_, rfl, WL.r 2 hs2 [] rfl (WL.nil (WC.ret (rtv rfl rfl hs2 ?_)))⟩
 rw [← hasI_find]
end Go.Proofs.YthfhhldbglaieaaGreat
