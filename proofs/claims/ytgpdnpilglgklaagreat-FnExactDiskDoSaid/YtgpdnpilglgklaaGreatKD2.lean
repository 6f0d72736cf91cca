/-
  What the proof stands on, part 2.
-/
import Derived.Test.YtgpdnpilglgklaaGreatKD1
namespace Go.Proofs.YtgpdnpilglgklaaGreat
open Go Go.RowKit
set_option linter.unusedVariables false
set_option linter.unusedSimpArgs false
section
variable {P : Program} {n : Nat} {f : Fr} {w w0 : World} {T : List Nat} {R : Hp}
theorem WC.join {c : Code} {Q : Kont} (Post : Fr → World → Prop) (h : WC P n c (fun e f' w' => e = .normal ∧ Post f' w') f w) (k : ∀ f' w', Post f' w' → Q .normal f' w') : WC P n c Q f w :=
 h.mono fun e f' w' ⟨he, hp⟩ => he ▸ k f' w' hp
theorem St.sepOwn {L1 : Hp} {p : Nat × Obj} (hs : St w0 T (L1 ++ R) w) (hp : p ∈ R) : p.1 ∉ L1.map (·.1) := by
 intro hm
 have hd := hs.nodup
 rw [List.map_append, List.nodup_append] at hd
 exact hd.2.2 _ hm _ (List.mem_map_of_mem hp) rfl
theorem St.nodupL {L1 : Hp} (hs : St w0 T (L1 ++ R) w) : (L1.map (·.1)).Nodup := by
 have hd := hs.nodup
 rw [List.map_append, List.nodup_append] at hd
 exact hd.1
end
section
variable {P : Program} {w : World} {o : Oper} {f : Fr} {x y : Operand} {t t' : TypeId} {k : IntKind} {a b : Int}
theorem Run.min (ho : o.op = .call { callee := .builtin .min, args := #[x, y], argTypes := #[t, t'] }) (hx : ev f x = some (.int k a)) (hy : ev f y = some (.int k b)) : Run P o f w (.value (.int k (Min.min a b))) w := fun ρ hρ => by
 have e : (if b < a then b else a) = Min.min a b := by split <;> omega
 simp [execOp, ho, hρ _ _ hx, hρ _ _ hy, resolve, invoke, builtin, go_sem, e]
theorem Run.max (ho : o.op = .call { callee := .builtin .max, args := #[x, y], argTypes := #[t, t'] }) (hx : ev f x = some (.int k a)) (hy : ev f y = some (.int k b)) : Run P o f w (.value (.int k (Max.max a b))) w := fun ρ hρ => by
 have e : (if a < b then b else a) = Max.max a b := by split <;> omega
 simp [execOp, ho, hρ _ _ hx, hρ _ _ hy, resolve, invoke, builtin, go_sem, e]
end
theorem Run.build {P : Program} {w : World} {o : Oper} {f : Fr} {t : TypeId} {parts : Array (Nat × Operand)} {ps : List (Nat × Operand)} {qs : List (Nat × Value)} {vs cl : List Value} (ho : o.op = .build t parts) (hps : parts.toList = ps) (hv : evs f (ps.map (·.2)) = some vs) (hz : (ps.map (·.1)).zip vs = qs) (hb : P.built t qs = some cl.toArray) : Run P o f w (.value (.agg cl.toArray)) w := fun ρ hρ => by
 have e : (parts.map fun p => (p.1, ρ p.2)).toList = qs := by
  rw [Array.toList_map, hps, ← hz]
  have := evs_map hρ hv
  rw [← this]
  clear hz hv hb this hps ho
  induction ps with
  | nil => rfl
  | cons a r ih => simp [ih]
 simp [execOp, ho, run_build w t _ cl.toArray (by rw [e]; exact hb)]
section
variable {P : Program} {w : World} {o : Oper} {f : Fr} {t t' : TypeId} {x y : Operand} {a b : Int}
theorem Run.nilCheck {p : Addr} (ho : o.op = .nilCheck x) (hx : ev f x = some (.pointer (some p))) : Run P o f w (.value (.pointer (some p))) w := fun ρ hρ => by
 simp [execOp, ho, hρ _ _ hx, asAddr, Instr.sureAddr, go_sem]
end
theorem WC.loopV {P : Program} {n : Nat} {c : Code} {Q : Kont} {f : Fr} {w0 w : World} {T : List Nat} {R : Hp} {α : Type} (F : Fr) (hF : Sub F f) (L : α → Hp) (a0 : α) (hst : St w0 T (L a0 ++ R) w) (I : Nat → α → Fr → Prop) (k0 : Nat) (h0 : I k0 a0 f)
  (hr : ∀ k a f w, I k a f → Sub F f → St w0 T (L a ++ R) w → WC P n c (thenK (fun f' w' => Sub F f' ∧ ∃ a', St w0 T (L a' ++ R) w' ∧ ∃ k', k' < k ∧ I k' a' f') Q) f w) : WC P n (.loop c) Q f w :=
 WC.loopN (fun k f w => ∃ a, I k a f ∧ Sub F f ∧ St w0 T (L a ++ R) w) k0 ⟨a0, h0, hF, hst⟩ fun k f w ⟨a, h1, h2, h3⟩ => (hr k a f w h1 h2 h3).mono fun e f' w' q => by
  cases e
  case normal =>
   obtain ⟨q1, a', q2, k', q3, q4⟩ := q
   exact ⟨k', q3, a', q4, q1, q2⟩
  all_goals exact q
section
variable {w0 w : World} {T : List Nat} {L1 L2 L3 L4 L5 L6 L7 L8 L9 R : Hp}
theorem St.grp1 (A : Hp) (h : St w0 T (A ++ (L1 ++ R)) w) : St w0 T ((A ++ (L1)) ++ R) w := by simpa only [List.append_assoc] using h
theorem St.ungrp1 (A : Hp) (h : St w0 T ((A ++ (L1)) ++ R) w) : St w0 T (A ++ (L1 ++ R)) w := by simpa only [List.append_assoc] using h
theorem St.grp2 (A : Hp) (h : St w0 T (A ++ (L1 ++ (L2 ++ R))) w) : St w0 T ((A ++ (L1 ++ L2)) ++ R) w := by simpa only [List.append_assoc] using h
theorem St.ungrp2 (A : Hp) (h : St w0 T ((A ++ (L1 ++ L2)) ++ R) w) : St w0 T (A ++ (L1 ++ (L2 ++ R))) w := by simpa only [List.append_assoc] using h
end
def Bag {α : Type} (own : α → Hp → Prop) : List α → Hp → Prop
 | [], L => L = []
 | x :: r, L => ∃ La Lb, L = La ++ Lb ∧ own x La ∧ Bag own r Lb
section
variable {α : Type} {own : α → Hp → Prop} {xs ys : List α} {x : α} {L La Lb : Hp}
theorem Bag.nil : Bag own [] [] := rfl
theorem Bag.append : ∀ {xs : List α} {La : Hp}, Bag own xs La → Bag own ys Lb → Bag own (xs ++ ys) (La ++ Lb)
 | [], La, h, k => by
  have : La = [] := h
  subst this; exact k
 | x :: r, La, h, k => by
  obtain ⟨L1, L2, rfl, h1, h2⟩ := h
  exact ⟨L1, L2 ++ Lb, by rw [List.append_assoc], h1, Bag.append h2 k⟩
theorem Bag.one (h : own x L) : Bag own [x] L := ⟨L, [], by simp, h, rfl⟩
theorem Bag.snoc (h : Bag own xs La) (k : own x Lb) : Bag own (xs ++ [x]) (La ++ Lb) := h.append (Bag.one k)
theorem Bag.split : ∀ {xs : List α} {L : Hp}, Bag own (xs ++ ys) L → ∃ La Lb, L = La ++ Lb ∧ Bag own xs La ∧ Bag own ys Lb
 | [], L, h => ⟨[], L, rfl, rfl, h⟩
 | x :: r, L, h => by
  obtain ⟨L1, L2, rfl, h1, h2⟩ := h
  obtain ⟨La, Lb, rfl, h3, h4⟩ := Bag.split h2
  exact ⟨L1 ++ La, Lb, by rw [List.append_assoc], ⟨L1, La, rfl, h1, h3⟩, h4⟩
theorem Bag.nth {F : Enc α} : ∀ {xs : List α} {L : Hp} {i : Nat}, Bag own xs L → i < xs.length → ∃ La Li Lb, L = La ++ (Li ++ Lb) ∧ own (gat F xs i) Li ∧ ∀ x' Li', own x' Li' → Bag own (xs.set i x') (La ++ (Li' ++ Lb))
 | [], _, _, _, hi => by simp at hi
 | x :: r, L, 0, h, _ => by
  obtain ⟨L1, L2, rfl, h1, h2⟩ := h
  exact ⟨[], L1, L2, rfl, h1, fun x' Li' hx => ⟨Li', L2, rfl, hx, h2⟩⟩
 | x :: r, L, i + 1, h, hi => by
  obtain ⟨L1, L2, rfl, h1, h2⟩ := h
  obtain ⟨La, Li, Lb, rfl, h3, h4⟩ := Bag.nth (F := F) (i := i) h2 (by simpa using hi)
  exact ⟨L1 ++ La, Li, Lb, by rw [List.append_assoc], by simpa [gat] using h3, fun x' Li' hx => ⟨L1, La ++ (Li' ++ Lb), by rw [List.append_assoc], h1, h4 x' Li' hx⟩⟩
theorem Bag.mem : ∀ {xs : List α} {L : Hp}, Bag own xs L → ∀ x, x ∈ xs → ∃ Li, own x Li ∧ ∀ p, p ∈ Li → p ∈ L
 | [], _, _, x, hx => by cases hx
 | y :: r, L, h, x, hx => by
  obtain ⟨L1, L2, rfl, h1, h2⟩ := h
  rcases List.mem_cons.1 hx with rfl | hx
  ·exact ⟨L1, h1, fun p hp => List.mem_append_left _ hp⟩
  ·obtain ⟨Li, h3, h4⟩ := Bag.mem h2 x hx
   exact ⟨Li, h3, fun p hp => List.mem_append_right _ (h4 p hp)⟩
end
structure SlD (α : Type) where
 A : Option Addr
 n : Nat
 c : Nat
 xs : List α
structure SlN {α : Type} (F : Enc α) (ok : World → α → Prop) (w : World) (A : Option Addr) (n : Nat) (xs : List α) : Prop where
 sl : SlF F w A n xs
 all : ∀ x, x ∈ xs → ok w x
section
variable {α : Type} {F : Enc α} {ok : World → α → Prop} {own : α → Hp → Prop} {w0 w : World} {A : Option Addr} {n c : Nat} {xs : List α} {L L0 L1 : Hp}
theorem SlN.len (h : SlN F ok w A n xs) : xs.length = n := h.sl.len
theorem SlN.nth (h : SlN F ok w A n xs) {i : Nat} (hi : i < n) : ok w (gat F xs i) := h.all _ (gat_mem (by rw [h.sl.len]; exact hi))
theorem SlN.st0 (hk : ∀ {w0 : World} {L : Hp} {w : World} {x : α}, ok w0 x → St w0 [] L w → ok w x) (h : SlN F ok w0 A n xs) (hs : St w0 [] L w) : SlN F ok w A n xs := ⟨SlF.st0 h.sl hs, fun x hx => hk (h.all x hx) hs⟩
theorem SlN.nil (w : World) (A : Option Addr) : SlN F ok w A 0 [] := ⟨SlF.nil _ _, fun x h => by cases h⟩
theorem SlN.ofOwn (hk : ∀ {x : α} {L : Hp} {w : World}, own x L → (∀ p, p ∈ L → w.heap[p.1]? = some p.2) → ok w x) {e : TypeId} (ho : OwnF F e (.slice A n c) xs L0) (hb : Bag own xs L1) (h0 : ∀ p, p ∈ L0 → w.heap[p.1]? = some p.2) (h1 : ∀ p, p ∈ L1 → w.heap[p.1]? = some p.2) : SlN F ok w A n xs :=
 ⟨SlF.ofOwn ho h0, fun x hx => by
  obtain ⟨Li, h2, h3⟩ := hb.mem x hx
  exact hk h2 fun p hp => h1 p (h3 p hp)⟩
end
inductive TK where
 | int (k : IntKind)
 | bool
 | str
 | slice (e : TypeId)
 | struct (offs : List Nat)
 | other
structure TyK where
 k : TK
 sz : Nat
 agg : Bool
inductive TT where
 | leaf
 | node (l : TT) (t : Nat) (v : TyK) (r : TT)
def TT.get : TT → Nat → Option TyK
 | .leaf, _ => none
 | .node l k v r, t => bif Nat.beq t k then some v else bif Nat.blt t k then l.get t else r.get t
section
variable (P : Program)
def AllSz : List Field → Prop
 | [] => True
 | f :: r => (∃ sz, (∀ w, (sizeOf f.type).run P w = .ok sz w) ∧ Nat.beq sz 0 = false) ∧ AllSz r
def TK.Ok (t : TypeId) : TK → Prop
 | .int k => ∀ w, (underlying t).run P w = .ok (.int k) w
 | .bool => ∀ w, (underlying t).run P w = .ok .bool w
 | .str => ∀ w, (underlying t).run P w = .ok .string w
 | .slice e => ∀ w, (underlying t).run P w = .ok (.slice e) w
 | .struct offs => ∃ fs, (∀ w, (underlying t).run P w = .ok (.struct fs) w) ∧ fs.toList.map (·.offset) = offs ∧ AllSz P fs.toList
 | .other => True
def TyK.Ok (t : TypeId) (v : TyK) : Prop := v.k.Ok P t ∧ (∀ w, (sizeOf t).run P w = .ok v.sz w) ∧ (∀ w, (isAgg t).run P w = .ok v.agg w)
def TT.Ok : TT → Prop
 | .leaf => True
 | .node l t v r => l.Ok ∧ v.Ok P t ∧ r.Ok
end
theorem TT.get_ok {P : Program} : ∀ {tb : TT} {t : Nat} {v : TyK}, tb.Ok P → tb.get t = some v → v.Ok P t
 | .leaf, _, _, _, h => by cases h
 | .node l k u r, t, v, h, hg => by
  unfold TT.get at hg
  cases hb : Nat.beq t k with
  | true =>
   rw [hb] at hg
   cases hg
   rw [Nat.eq_of_beq_eq_true hb]
   exact h.2.1
  | false =>
   rw [hb] at hg
   cases hl : Nat.blt t k with
   | true => rw [hl] at hg; exact TT.get_ok h.1 hg
   | false => rw [hl] at hg; exact TT.get_ok h.2.2 hg
theorem allSz_get {P : Program} : ∀ {fs : List Field} {i : Nat} {f : Field}, AllSz P fs → fs[i]? = some f → ∃ sz, (∀ w, (sizeOf f.type).run P w = .ok sz w) ∧ Nat.beq sz 0 = false
 | [], _, _, _, h => by simp at h
 | g :: r, 0, f, h, hi => by simp at hi; subst hi; exact h.1
 | g :: r, i + 1, f, h, hi => allSz_get (fs := r) (i := i) h.2 (by simpa using hi)
def ikB : IntKind → IntKind → Bool
 | .i64, .i64 => true
 | .u8, .u8 => true
 | .u32, .u32 => true
 | _, _ => false
theorem ikB_eq {a b : IntKind} (h : ikB a b = true) : a = b := by
 unfold ikB at h; split at h <;> first | rfl | cases h
def nthV : List Value → Nat → Option Value
 | [], _ => none
 | v :: _, 0 => some v
 | _ :: r, i + 1 => nthV r i
theorem nthV_eq : ∀ (l : List Value) (i : Nat), nthV l i = l[i]?
 | [], _ => by simp [nthV]
 | v :: _, 0 => by simp [nthV]
 | _ :: r, i + 1 => by simp [nthV, nthV_eq r i]
def nthN : List Nat → Nat → Option Nat
 | [], _ => none
 | v :: _, 0 => some v
 | _ :: r, i + 1 => nthN r i
theorem nthN_eq : ∀ (l : List Nat) (i : Nat), nthN l i = l[i]?
 | [], _ => by simp [nthN]
 | v :: _, 0 => by simp [nthN]
 | _ :: r, i + 1 => by simp [nthN, nthN_eq r i]
section
variable {β : Type}
def dropK : List Value → Nat → (List Value → Option β) → Option β
 | l, 0, k => k l
 | [], _ + 1, _ => none
 | _ :: r, i + 1, k => dropK r i k
def takeK : List Value → Nat → (List Value → Option β) → Option β
 | _, 0, k => k []
 | [], _ + 1, _ => none
 | v :: r, i + 1, k => takeK r i fun q => k (v :: q)
theorem dropK_some {k : List Value → Option β} {x : β} : ∀ {l : List Value} {i : Nat}, dropK l i k = some x → k (l.drop i) = some x ∧ i ≤ l.length
 | l, 0, h => ⟨by simpa [dropK] using h, Nat.zero_le _⟩
 | [], i + 1, h => by cases h
 | _ :: r, i + 1, h => by
  have := dropK_some (l := r) (i := i) h
  exact ⟨by simpa using this.1, by simpa using this.2⟩
theorem takeK_some {x : β} : ∀ {l : List Value} {i : Nat} {k : List Value → Option β}, takeK l i k = some x → k (l.take i) = some x ∧ i ≤ l.length
 | l, 0, _, h => ⟨by simpa [takeK] using h, Nat.zero_le _⟩
 | [], i + 1, _, h => by cases h
 | v :: r, i + 1, k, h => by
  have := takeK_some (l := r) (i := i) (k := fun q => k (v :: q)) h
  exact ⟨by simpa using this.1, by simpa using this.2⟩
def sv (tb : TT) (L : Hp) (op : Op) (f : Fr) (h : List Nat) (S : Prop) (k : Value → List Nat → Prop → Option β) : Option β :=
 match op with
 | .move x => match ev f x with
  | some v => k v h S
  | none => none
 | .assign x => match ev f x with
  | some v => k v h S
  | none => none
 | .nilCheck x => match ev f x with
  | some (.pointer (some a)) => k (.pointer (some a)) h S
  | _ => none
 | .unOp u _ x => match u, ev f x with
  | .not, some (.bool b) => k (.bool (!b)) h S
  | .neg, some (.int .i64 a) => k (.int .i64 (-a)) h (In64 (-a) ∧ S)
  | _, _ => none
 | .binOp b t x y _ => match ev f x, ev f y with
  | some (.int ka a), some (.int kb c) => bif ikB ka kb then (match b with
   | .lss => k (.bool (decide (a < c))) h S
   | .leq => k (.bool (decide (a ≤ c))) h S
   | .gtr => k (.bool (decide (c < a))) h S
   | .geq => k (.bool (decide (c ≤ a))) h S
   | .eql => k (.bool (decide (a = c))) h S
   | .neq => k (.bool (!decide (a = c))) h S
   | .add => bif ikB ka .i64 then k (.int .i64 (a + c)) h (In64 (a + c) ∧ S) else none
   | .sub => bif ikB ka .i64 then k (.int .i64 (a - c)) h (In64 (a - c) ∧ S) else none
   | .mul => bif ikB ka .i64 then k (.int .i64 (a * c)) h (In64 (a * c) ∧ S) else none
   | _ => none) else none
  | some (.string a), some (.string c) => (match b with
   | .eql => k (.bool (decide (a = c))) h S
   | .neq => k (.bool (!decide (a = c))) h S
   | _ => none)
  | some (.bool a), some (.bool c) => (match tb.get t with
   | some ⟨.bool, _, _⟩ => (match b with
    | .eql => k (.bool (a == c)) h S
    | .neq => k (.bool (!(a == c))) h S
    | _ => none)
   | _ => none)
  | _, _ => none
 | .convert s d x => match tb.get s, tb.get d with
  | some ⟨.int ks, _, _⟩, some ⟨.int kd, _, _⟩ => (match ev f x with
   | some (.int kv a) => bif ikB kv ks then (bif ikB kd .u8 then k (.int .u8 ((ub a).toNat)) h S else bif ikB kd .i64 then k (.int .i64 a) h (In64 a ∧ S) else none) else none
   | _ => none)
  | _, _ => none
 | .extract x i => match ev f x with
  | some (.tuple vs) => (match nthV vs.toList i with
   | some v => k v h S
   | none => none)
  | _ => none
 | .fieldAddr s x i => match tb.get s, ev f x with
  | some ⟨.struct offs, _, _⟩, some (.pointer (some ⟨b, off, none⟩)) => (match nthN offs i with
   | some o => k (.pointer (some ⟨b, off + o, none⟩)) h S
   | none => none)
  | _, _ => none
 | .load t x => match h with
  | i :: h' => (match tb.get t, ev f x, nthL L i with
   | some ⟨_, sz, ag⟩, some (.pointer (some ⟨b, off, none⟩)), some (b', .cells cs _ _) => bif ag then dropK cs.toList off fun l => takeK l sz fun q => k (.agg q.toArray) h' (b' = b ∧ S)
    else (match nthV cs.toList off with
     | some v => k v h' (b' = b ∧ S)
     | none => none)
   | _, _, _ => none)
  | [] => none
 | .call c => match c.callee, c.args.toList, c.argTypes.toList with
  | .builtin .len, [x], [t] => (match tb.get t, ev f x with
   | some ⟨.slice _, _, _⟩, some (.slice _ l _) => k (.int .i64 l) h S
   | some ⟨.str, _, _⟩, some (.string s) => k (.int .i64 s.size) h S
   | _, _ => none)
  | .builtin .cap, [x], [t] => (match tb.get t, ev f x with
   | some ⟨.slice _, _, _⟩, some (.slice _ _ c) => k (.int .i64 c) h S
   | _, _ => none)
  | .builtin .min, [x, y], [t, t'] => (match ev f x, ev f y with
   | some (.int ka a), some (.int kb c) => bif ikB ka kb then k (.int ka (Min.min a c)) h S else none
   | _, _ => none)
  | .builtin .max, [x, y], [t, t'] => (match ev f x, ev f y with
   | some (.int ka a), some (.int kb c) => bif ikB ka kb then k (.int ka (Max.max a c)) h S else none
   | _, _ => none)
  | _, _, _ => none
 | _ => none
end
section
variable {P : Program} {tb : TT} {w0 w : World} {T : List Nat} {L : Hp} {f : Fr}
theorem sv_ok {β : Type} {op : Op} {h : List Nat} {S : Prop} {k : Value → List Nat → Prop → Option β} {x : β} (htb : tb.Ok P) (hsv : sv tb L op f h S k = some x) :
    ∃ v h' S', k v h' S' = some x ∧ (S' → S ∧ ∀ w, (∀ p, p ∈ L → w.heap[p.1]? = some p.2) → ∀ o : Oper, o.op = op → Run P o f w (.value v) w) := by
  unfold sv at hsv
  split at hsv
  -- move
  · split at hsv
    · rename_i v hv
      exact ⟨_, _, _, hsv, fun hS => ⟨hS, fun w hst o ho => Run.move ho hv⟩⟩
    · cases hsv
  · split at hsv
    · rename_i v hv
      exact ⟨_, _, _, hsv, fun hS => ⟨hS, fun w hst o ho => Run.assign ho hv⟩⟩
    · cases hsv
  · split at hsv
    · rename_i a hv
      exact ⟨_, _, _, hsv, fun hS => ⟨hS, fun w hst o ho => Run.nilCheck ho hv⟩⟩
    · cases hsv
  -- unOp
  · split at hsv
    · rename_i b hv
      exact ⟨_, _, _, hsv, fun hS => ⟨hS, fun w hst o ho => Run.not ho hv⟩⟩
    · rename_i a hv
      exact ⟨_, _, _, hsv, fun hS => ⟨hS.2, fun w hst o ho => Run.neg ho hv (neg_in hS.1)⟩⟩
    · cases hsv
  -- binOp
  · split at hsv
    · rename_i ka a kc c hx hy
      cases hk : ikB ka kc with
      | false => rw [hk] at hsv; cases hsv
      | true =>
        have := ikB_eq hk
        subst this
        rw [hk] at hsv
        dsimp only [cond_true] at hsv
        split at hsv
        · exact ⟨_, _, _, hsv, fun hS => ⟨hS, fun w hst o ho => Run.lss ho hx hy⟩⟩
        · exact ⟨_, _, _, hsv, fun hS => ⟨hS, fun w hst o ho => Run.leq ho hx hy⟩⟩
        · exact ⟨_, _, _, hsv, fun hS => ⟨hS, fun w hst o ho => Run.gtr ho hx hy⟩⟩
        · exact ⟨_, _, _, hsv, fun hS => ⟨hS, fun w hst o ho => Run.geq ho hx hy⟩⟩
        · exact ⟨_, _, _, hsv, fun hS => ⟨hS, fun w hst o ho => Run.eql ho hx hy⟩⟩
        · exact ⟨_, _, _, hsv, fun hS => ⟨hS, fun w hst o ho => Run.neq ho hx hy⟩⟩
        all_goals first
          | (cases hsv; done)
          | (cases h64 : ikB ka .i64 with
             | false => rw [h64] at hsv; cases hsv
             | true =>
               rw [h64] at hsv
               have := ikB_eq h64
               subst this
               first
                 | exact ⟨_, _, _, hsv, fun hS => ⟨hS.2, fun w hst o ho => Run.add ho hx hy hS.1⟩⟩
                 | exact ⟨_, _, _, hsv, fun hS => ⟨hS.2, fun w hst o ho => Run.sub ho hx hy hS.1⟩⟩
                 | exact ⟨_, _, _, hsv, fun hS => ⟨hS.2, fun w hst o ho => Run.mul ho hx hy hS.1⟩⟩)
    · rename_i a c hx hy
      split at hsv
      · exact ⟨_, _, _, hsv, fun hS => ⟨hS, fun w hst o ho => Run.eqlS ho hx hy⟩⟩
      · exact ⟨_, _, _, hsv, fun hS => ⟨hS, fun w hst o ho => Run.neqS ho hx hy⟩⟩
      · cases hsv
    · rename_i a c hx hy
      split at hsv
      · rename_i ht
        have hu := (TT.get_ok htb ht).1
        split at hsv
        · exact ⟨_, _, _, hsv, fun hS => ⟨hS, fun w hst o ho => Run.eqlB hu ho hx hy⟩⟩
        · exact ⟨_, _, _, hsv, fun hS => ⟨hS, fun w hst o ho => Run.neqB hu ho hx hy⟩⟩
        · cases hsv
      · cases hsv
    · cases hsv
  -- convert
  · split at hsv
    · rename_i ks _ _ kd _ _ hs hd
      have hus := (TT.get_ok htb hs).1
      have hud := (TT.get_ok htb hd).1
      split at hsv
      · rename_i kv a hx
        cases hk : ikB kv ks with
        | false => rw [hk] at hsv; cases hsv
        | true =>
          have := ikB_eq hk
          subst this
          rw [hk] at hsv
          dsimp only [cond_true] at hsv
          cases h8 : ikB kd .u8 with
          | true =>
            rw [h8] at hsv
            have := ikB_eq h8
            subst this
            exact ⟨_, _, _, hsv, fun hS => ⟨hS, fun w hst o ho => Run.convU8 hus hud ho hx⟩⟩
          | false =>
            rw [h8] at hsv
            dsimp only [cond_false] at hsv
            cases h64 : ikB kd .i64 with
            | false => rw [h64] at hsv; cases hsv
            | true =>
              rw [h64] at hsv
              have := ikB_eq h64
              subst this
              refine ⟨_, _, _, hsv, fun hS => ⟨hS.2, fun w hst o ho => ?_⟩⟩
              have := Run.conv (P := P) (w := w) hus hud ho hx
              rwa [wrap_in hS.1] at this
      · cases hsv
    · cases hsv
  -- extract
  · split at hsv
    · rename_i vs hx
      split at hsv
      · rename_i v hv
        rw [nthV_eq] at hv
        exact ⟨_, _, _, hsv, fun hS => ⟨hS, fun w hst o ho => Run.extract ho hx hv⟩⟩
      · cases hsv
    · cases hsv
  -- fieldAddr
  · split at hsv
    · rename_i offs _ _ b off ht hx
      obtain ⟨fs, hu, hoffs, hall⟩ := (TT.get_ok htb ht).1
      split at hsv
      · rename_i i _ o hi
        rw [nthN_eq, ← hoffs, List.getElem?_map] at hi
        obtain ⟨fd, hfd, rfl⟩ := Option.map_eq_some_iff.1 hi
        obtain ⟨sz, hz, hz0⟩ := allSz_get hall hfd
        exact ⟨_, _, _, hsv, fun hS => ⟨hS, fun w hst o ho => Run.field hu ho hx hfd hz hz0⟩⟩
      · cases hsv
    · cases hsv
  -- load
  · split at hsv
    · split at hsv
      · rename_i i h' _ sz ag b off b' cs e fz ht hx hi
        obtain ⟨-, hz, hag⟩ := TT.get_ok htb ht
        cases ag with
        | true =>
          dsimp only [cond_true] at hsv
          obtain ⟨h1, hlo⟩ := dropK_some hsv
          obtain ⟨h2, hln⟩ := takeK_some h1
          refine ⟨_, _, _, h2, fun hS => ⟨hS.2, fun w hst o ho => ?_⟩⟩
          obtain ⟨rfl, -⟩ := hS
          have hh := hst _ (nthL_mem hi)
          refine Run.loadA hag hz ho hx (cells_of_heap (cl := cs.toList) (by simpa using hh) rfl ?_)
          rw [List.length_take]; exact Nat.min_eq_left hln
        | false =>
          dsimp only [cond_false] at hsv
          split at hsv
          · rename_i v hv
            rw [nthV_eq] at hv
            refine ⟨_, _, _, hsv, fun hS => ⟨hS.2, fun w hst o ho => ?_⟩⟩
            obtain ⟨rfl, -⟩ := hS
            have hh := hst _ (nthL_mem hi)
            exact Run.load hag ho hx (cell_of_heap (cl := cs.toList) (by simpa using hh) hv)
          · cases hsv
      · cases hsv
    · cases hsv
  -- call
  · rename_i c
    split at hsv
    · rename_i x t hc ha ht
      have e : ∀ o : Oper, o.op = .call c → o.op = .call { callee := .builtin .len, args := #[x], argTypes := #[t] } := fun o ho => by
        rw [ho]
        obtain ⟨c1, c2, c3⟩ := c
        simp only at hc ha ht
        subst hc
        congr 2
        · exact Array.toList_inj.1 ha
        · exact Array.toList_inj.1 ht
      split at hsv
      · rename_i _ _ _ _ l _ hg hx
        exact ⟨_, _, _, hsv, fun hS => ⟨hS, fun w hst o ho => Run.lenSl (TT.get_ok htb hg).1 (e o ho) hx⟩⟩
      · rename_i hg hx
        exact ⟨_, _, _, hsv, fun hS => ⟨hS, fun w hst o ho => Run.lenStr (TT.get_ok htb hg).1 (e o ho) hx⟩⟩
      · cases hsv
    · rename_i x t hc ha ht
      have e : ∀ o : Oper, o.op = .call c → o.op = .call { callee := .builtin .cap, args := #[x], argTypes := #[t] } := fun o ho => by
        rw [ho]
        obtain ⟨c1, c2, c3⟩ := c
        simp only at hc ha ht
        subst hc
        congr 2
        · exact Array.toList_inj.1 ha
        · exact Array.toList_inj.1 ht
      split at hsv
      · rename_i hg hx
        exact ⟨_, _, _, hsv, fun hS => ⟨hS, fun w hst o ho => Run.capSl (TT.get_ok htb hg).1 (e o ho) hx⟩⟩
      · cases hsv
    · rename_i x y t t' hc ha ht
      have e : ∀ o : Oper, o.op = .call c → o.op = .call { callee := .builtin .min, args := #[x, y], argTypes := #[t, t'] } := fun o ho => by
        rw [ho]
        obtain ⟨c1, c2, c3⟩ := c
        simp only at hc ha ht
        subst hc
        congr 2
        · exact Array.toList_inj.1 ha
        · exact Array.toList_inj.1 ht
      split at hsv
      · rename_i ka a kc c hx hy
        cases hk : ikB ka kc with
        | false => rw [hk] at hsv; cases hsv
        | true =>
          have := ikB_eq hk
          subst this
          rw [hk] at hsv
          exact ⟨_, _, _, hsv, fun hS => ⟨hS, fun w hst o ho => Run.min (e o ho) hx hy⟩⟩
      · cases hsv
    · rename_i x y t t' hc ha ht
      have e : ∀ o : Oper, o.op = .call c → o.op = .call { callee := .builtin .max, args := #[x, y], argTypes := #[t, t'] } := fun o ho => by
        rw [ho]
        obtain ⟨c1, c2, c3⟩ := c
        simp only at hc ha ht
        subst hc
        congr 2
        · exact Array.toList_inj.1 ha
        · exact Array.toList_inj.1 ht
      split at hsv
      · rename_i ka a kc c hx hy
        cases hk : ikB ka kc with
        | false => rw [hk] at hsv; cases hsv
        | true =>
          have := ikB_eq hk
          subst this
          rw [hk] at hsv
          exact ⟨_, _, _, hsv, fun hS => ⟨hS, fun w hst o ho => Run.max (e o ho) hx hy⟩⟩
      · cases hsv
    · cases hsv
  · cases hsv
end
def SubS (F f : Fr) : Prop := ∀ i v, lk F i = some v → lk f i = some v
theorem SubS.refl (f : Fr) : SubS f f := fun _ _ h => h
theorem SubS.trans {F G f : Fr} (h : SubS F G) (k : SubS G f) : SubS F f := fun i v hi => k i v (h i v hi)
theorem SubS.cons {F f : Fr} {d : Nat} {v : Value} (h : SubS F f) (hd : lk F d = none) : SubS F ((d, v) :: f) := fun i u hi => by
 unfold lk
 cases hb : Nat.beq d i with
 | true =>
  rw [Nat.eq_of_beq_eq_true hb] at hd
  rw [hd] at hi; cases hi
 | false => exact h i u hi
theorem SubS.put {F f : Fr} {d : Nat} {v : Value} (h : SubS F f) (hv : lk f d = some v) : SubS ((d, v) :: F) f := fun i u hi => by
 unfold lk at hi
 cases hb : Nat.beq d i with
 | true =>
  rw [hb] at hi
  rw [← Nat.eq_of_beq_eq_true hb, hv]
  exact hi
 | false =>
  rw [hb] at hi
  exact h i u hi
theorem SubS.head {F f : Fr} {d : Nat} {v : Value} (h : SubS F f) : SubS ((d, v) :: F) ((d, v) :: f) := fun i u hi => by
 unfold lk at hi ⊢
 cases hb : Nat.beq d i with
 | true => rw [hb] at hi; exact hi
 | false => rw [hb] at hi; exact h i u hi
def subB (F : Fr) : Nat → Fr → Option Fr
 | 0, f => some f
 | _ + 1, [] => none
 | k + 1, (d, _) :: f => match lk F d with
  | none => subB F k f
  | some _ => none
theorem subB_ok {F : Fr} : ∀ {k : Nat} {f : Fr}, subB F k f = some F → SubS F f
 | 0, f, h => by simp [subB] at h; subst h; exact SubS.refl _
 | k + 1, [], h => by cases h
 | k + 1, (d, v) :: f, h => by
  unfold subB at h
  split at h
  ·rename_i hd; exact (subB_ok h).cons hd
  ·cases h
theorem Good.subS {a : Act} {n : Nat} {F f : Fr} (h : Good a n f) (hs : SubS F f) : Good a n F := ⟨h.size, h.defers, fun i v hv => h.at_ i v (hs i v hv)⟩
theorem WC.subS {P : Program} {n : Nat} {Q : Kont} {c : Code} {F f : Fr} {w : World} (hs : SubS F f) (h : WC P n c Q F w) : WC P n c Q f w := fun a ha => h a (ha.subS hs)
section
variable {P : Program} {w : World} {n : Nat} {ol : List Oper} {K : Fr → World → Prop} {KQ : Fr → Prop} {C : World → Prop}
theorem WL.subS {l : List Oper} {F f : Fr} (hs : SubS F f) (h : WL P n ol l K F w) : WL P n ol l K f w := fun Q a ha hk => h Q a (ha.subS hs) hk
theorem WQ.subS {l : List Oper} {F f : Fr} (hs : SubS F f) (h : WQ P n ol l C KQ F) : WQ P n ol l C KQ f := fun a ha => h a (ha.subS hs)
end
def actB : List (Nat × Bool) → Nat → Bool → Bool
 | [], _, _ => false
 | (j, b) :: r, i, c => (Nat.beq j i && (b == c)) || actB r i c
def Acts (ol : List Oper) (act : List (Nat × Bool)) (f : Fr) : Prop := ∀ j b, actB act j b = true → ∃ oj dj, nthO ol j = some oj ∧ oj.dst = some dj ∧ lk f dj = some (.bool b)
theorem Acts.nil {ol : List Oper} {f : Fr} : Acts ol [] f := fun _ _ h => by cases h
def actH (ol : List Oper) (j : Nat) (f : Fr) : Option Bool :=
 match nthO ol j with
 | some oj => (match oj.dst with
  | some dj => (match lk f dj with
   | some (.bool g) => some g
   | _ => none)
  | none => none)
 | none => none
theorem actH_ok {ol : List Oper} {j : Nat} {f : Fr} {g : Bool} (h : actH ol j f = some g) : ∃ oj dj, nthO ol j = some oj ∧ oj.dst = some dj ∧ lk f dj = some (.bool g) := by
 unfold actH at h
 split at h
 ·rename_i oj hj
  split at h
  ·rename_i dj hd
   split at h
   ·rename_i g' hl
    cases h
    exact ⟨_, _, hj, hd, hl⟩
   ·cases h
  ·cases h
 ·cases h
theorem Acts.cons {ol : List Oper} {act : List (Nat × Bool)} {f : Fr} {j : Nat} {g b : Bool} (h : Acts ol act f) (hj : actH ol j f = some g) (hg : g = b) : Acts ol ((j, b) :: act) f := fun i c hi => by
 simp only [actB, Bool.or_eq_true, Bool.and_eq_true, beq_iff_eq] at hi
 rcases hi with ⟨h1, rfl⟩ | hi
 ·rw [← Nat.eq_of_beq_eq_true h1, ← hg]; exact actH_ok hj
 ·exact h i c hi
theorem Acts.put {ol : List Oper} {act : List (Nat × Bool)} {f : Fr} {d : Nat} {v : Value} (h : Acts ol act f) (hd : lk f d = none) : Acts ol act ((d, v) :: f) := fun i c hi => by
 obtain ⟨oj, dj, h1, h2, h3⟩ := h i c hi
 exact ⟨oj, dj, h1, h2, (SubS.refl f).cons hd dj _ h3⟩
def wantA (ol : List Oper) (act : List (Nat × Bool)) (o : Oper) (f : Fr) : Bool :=
 match o.guard with
 | none => true
 | some (j, b) => actB act j b
theorem wantA_ok {ol : List Oper} {act : List (Nat × Bool)} {o : Oper} {f : Fr} (ha : Acts ol act f) (h : wantA ol act o f = true) : want ol o f = some true := by
 unfold wantA at h
 unfold want
 cases hg : o.guard with
 | none => rfl
 | some p =>
  obtain ⟨j, b⟩ := p
  rw [hg] at h
  obtain ⟨oj, dj, h1, h2, h3⟩ := ha j b h
  simp [h1, h2, h3]
def frB (act : List (Nat × Bool)) (f : Fr) (d : Nat) : Bool :=
 match act with
 | [] => true
 | _ :: _ => match lk f d with
  | none => true
  | some _ => false
theorem frB_ok {ol : List Oper} {act : List (Nat × Bool)} {f : Fr} {d : Nat} {v : Value} (ha : Acts ol act f) (h : frB act f d = true) : Acts ol act ((d, v) :: f) := by
 cases act with
 | nil => exact Acts.nil
 | cons p r =>
  unfold frB at h
  simp only at h
  split at h
  ·rename_i hd; exact ha.put hd
  ·cases h
def runs (tb : TT) (n : Nat) (ol : List Oper) (L : Hp) (act : List (Nat × Bool)) : Nat → List Oper → Fr → List Nat → Prop → Option (List Oper × Fr × Prop)
 | 0, l, f, _, S => some (l, f, S)
 | _ + 1, [], _, _, _ => none
 | m + 1, o :: r, f, h, S => match o.dst with
  | some d => bif wantA ol act o f && Nat.blt d n && frB act f d then sv tb L o.op f h S fun v h' S' => runs tb n ol L act m r ((d, v) :: f) h' S' else none
  | none => none
section
variable {P : Program} {tb : TT} {w0 w : World} {T : List Nat} {L : Hp} {n : Nat} {ol : List Oper} {act : List (Nat × Bool)} {K : Fr → World → Prop} {KQ : Fr → Prop} {C : World → Prop}
theorem runs_ok (htb : tb.Ok P) : ∀ {m : Nat} {l l' : List Oper} {f f' : Fr} {h : List Nat} {S S' : Prop}, Acts ol act f → runs tb n ol L act m l f h S = some (l', f', S') → S' → S ∧ Acts ol act f' ∧ (∀ w, St w0 T L w → WL P n ol l' K f' w → WL P n ol l K f w) ∧ (WQ P n ol l' (fun w' => St w0 T L w') KQ f' → WQ P n ol l (fun w' => St w0 T L w') KQ f)
 | 0, l, l', f, f', h, S, S', ha, hr, hS => by
  simp only [runs, Option.some.injEq, Prod.mk.injEq] at hr
  obtain ⟨rfl, rfl, rfl⟩ := hr
  exact ⟨hS, ha, fun _ _ => id, id⟩
 | m + 1, [], l', f, f', h, S, S', ha, hr, hS => by cases hr
 | m + 1, o :: r, l', f, f', h, S, S', ha, hr, hS => by
  unfold runs at hr
  split at hr
  ·rename_i d hd
   cases hc : (wantA ol act o f && Nat.blt d n && frB act f d) with
   | false => rw [hc] at hr; cases hr
   | true =>
    rw [hc] at hr
    dsimp only [cond_true] at hr
    simp only [Bool.and_eq_true] at hc
    obtain ⟨v, h', S1, hk, hv⟩ := sv_ok htb hr
    obtain ⟨h1, h2, h3, h4⟩ := runs_ok htb (frB_ok ha hc.2) hk hS
    obtain ⟨h5, h6⟩ := hv h1
    have hw := wantA_ok ha hc.1.1
    exact ⟨h5, h2, fun w hst hl => WL.val hw hd hc.1.2 (h6 w (fun p hp => (hst.own p hp).1) o rfl) (h3 w hst hl), fun hl => WQ.val hw hd hc.1.2 (fun w hst => h6 w (fun p hp => (hst.own p hp).1) o rfl) (h4 hl)⟩
  ·cases hr
theorem WL.run (htb : tb.Ok P) (m : Nat) (hst : St w0 T L w) (h : List Nat) {l l' : List Oper} {f f' : Fr} {S : Prop} (hr : runs tb n ol L [] m l f h True = some (l', f', S)) (hS : S) (k : WL P n ol l' K f' w) : WL P n ol l K f w :=
 (runs_ok (KQ := fun _ => True) htb Acts.nil hr hS).2.2.1 w hst k
theorem WL.runA {f : Fr} (htb : tb.Ok P) (m : Nat) (ha : Acts ol act f) (hst : St w0 T L w) (h : List Nat) {l l' : List Oper} {f' : Fr} {S : Prop} (hr : runs tb n ol L act m l f h True = some (l', f', S)) (hS : S) (k : WL P n ol l' K f' w) : WL P n ol l K f w :=
 (runs_ok (KQ := fun _ => True) htb ha hr hS).2.2.1 w hst k
theorem WQ.run (htb : tb.Ok P) (m : Nat) (h : List Nat) {l l' : List Oper} {f f' : Fr} {S : Prop} (hr : runs tb n ol L [] m l f h True = some (l', f', S)) (hS : S) (k : WQ P n ol l' (fun w' => St w0 T L w') KQ f') : WQ P n ol l (fun w' => St w0 T L w') KQ f :=
 (runs_ok (K := fun _ _ => True) htb Acts.nil hr hS).2.2.2 k
theorem WQ.runA {f : Fr} (htb : tb.Ok P) (m : Nat) (ha : Acts ol act f) (h : List Nat) {l l' : List Oper} {f' : Fr} {S : Prop} (hr : runs tb n ol L act m l f h True = some (l', f', S)) (hS : S) (k : WQ P n ol l' (fun w' => St w0 T L w') KQ f') : WQ P n ol l (fun w' => St w0 T L w') KQ f :=
 (runs_ok (K := fun _ _ => True) htb ha hr hS).2.2.2 k
def skG (n : Nat) (ol : List Oper) (j : Nat) (bb : Bool) : Nat → List Oper → Fr → Option (List Oper × Fr)
 | 0, l, f => some (l, f)
 | _ + 1, [], _ => none
 | m + 1, o :: r, f => match o.dst with
  | some d => (match lk f d with
   | none => bif Nat.blt d n then (match o.guard with
    | some (i, b) => bif Nat.beq i j && (b == bb) then skG n ol j bb m r ((d, undef) :: f) else (match want ol o f with
     | some false => skG n ol j bb m r ((d, undef) :: f)
     | _ => none)
    | none => none) else none
   | some _ => none)
  | none => none
theorem skG_ok {j : Nat} {bb : Bool} : ∀ {m : Nat} {l l' : List Oper} {f f' : Fr}, actH ol j f = some (!bb) → skG n ol j bb m l f = some (l', f') → SubS f f' ∧ (∀ w, WL P n ol l' K f' w → WL P n ol l K f w) ∧ (WQ P n ol l' C KQ f' → WQ P n ol l C KQ f)
 | 0, l, l', f, f', ha, h => by
  simp only [skG, Option.some.injEq, Prod.mk.injEq] at h
  obtain ⟨rfl, rfl⟩ := h
  exact ⟨SubS.refl _, fun _ => id, id⟩
 | m + 1, [], l', f, f', ha, h => by cases h
 | m + 1, o :: r, l', f, f', ha, h => by
  unfold skG at h
  split at h
  ·rename_i d hd
   split at h
   ·rename_i hf
    cases hn : Nat.blt d n with
    | false => rw [hn] at h; cases h
    | true =>
     rw [hn] at h
     dsimp only [cond_true] at h
     have ha' : actH ol j ((d, undef) :: f) = some (!bb) := by
      obtain ⟨oj, dj, h1, h2, h3⟩ := actH_ok ha
      have := (SubS.refl f).cons (v := undef) hf dj _ h3
      unfold actH
      rw [h1]; simp only [h2, this]
     have fin : want ol o f = some false → skG n ol j bb m r ((d, undef) :: f) = some (l', f') → SubS f f' ∧ (∀ w, WL P n ol l' K f' w → WL P n ol (o :: r) K f w) ∧ (WQ P n ol l' C KQ f' → WQ P n ol (o :: r) C KQ f) := fun hw hk => by
      obtain ⟨h1, h2, h3⟩ := skG_ok ha' hk
      exact ⟨(SubS.refl f).cons hf |>.trans h1, fun w hl => WL.skip hw hd hn (h2 w hl), fun hl => WQ.skip hw hd hn (h3 hl)⟩
     split at h
     ·rename_i i b hgd
      cases hc : (Nat.beq i j && (b == bb)) with
      | true =>
       rw [hc] at h
       simp only [Bool.and_eq_true, beq_iff_eq] at hc
       obtain ⟨h1, rfl⟩ := hc
       obtain ⟨oj, dj, g1, g2, g3⟩ := actH_ok ha
       rw [← Nat.eq_of_beq_eq_true h1] at g1
       refine fin ?_ h
       unfold want
       simp only [hgd, g1, g2, g3]
       cases b <;> rfl
      | false =>
       rw [hc] at h
       dsimp only [cond_false] at h
       split at h
       ·rename_i hw; exact fin hw h
       ·cases h
     ·cases h
   ·cases h
  ·cases h
def actD (ol : List Oper) (j : Nat) : Option Nat :=
 match nthO ol j with
 | some oj => oj.dst
 | none => none
def grpH (n : Nat) (ol : List Oper) (act : List (Nat × Bool)) (e : Nat) (l : List Oper) (f : Fr) : Option (Bool × Bool × Nat × Nat × List Oper) :=
 match l with
 | o1 :: _ => (match o1.guard with
  | some (j, bb) => (match actH ol j f, actD ol j, skG n ol j bb e l f with
   | some g, some dj, some (o :: rest, _) => (match o.dst, o.op with
    | some d, .pick (.tmp t) x y => bif wantA ol act o f && Nat.blt d n && Nat.beq t dj then (match bb, x, y with
     | true, _, .const (.bool false) => some (true, g, j, d, rest)
     | false, .const (.bool true), _ => some (false, g, j, d, rest)
     | _, _, _ => none) else none
    | _, _ => none)
   | _, _, _ => none)
  | none => none)
 | [] => none
theorem Acts.subS {ol : List Oper} {act : List (Nat × Bool)} {F f : Fr} (h : Acts ol act F) (hs : SubS F f) : Acts ol act f := fun i c hi => by
 obtain ⟨oj, dj, h1, h2, h3⟩ := h i c hi
 exact ⟨oj, dj, h1, h2, hs _ _ h3⟩
theorem wantA_ok' {ol : List Oper} {act : List (Nat × Bool)} {o : Oper} {F f : Fr} (ha : Acts ol act f) (h : wantA ol act o F = true) : want ol o f = some true := wantA_ok (f := f) ha (by unfold wantA at h ⊢; exact h)
theorem want_none {o : Oper} {f : Fr} (h : o.guard = none) : want ol o f = some true := by unfold want; rw [h]
theorem grpH_ok {e : Nat} {l rest : List Oper} {f : Fr} {bb g : Bool} {j d : Nat} (ha : Acts ol act f) (h : grpH n ol act e l f = some (bb, g, j, d, rest)) :
  actH ol j f = some g ∧ (g = !bb → (∀ w, WL P n ol rest K ((d, .bool (!bb)) :: f) w → WL P n ol l K f w) ∧ (WQ P n ol rest C KQ ((d, .bool (!bb)) :: f) → WQ P n ol l C KQ f)) := by
 unfold grpH at h
 split at h
 ·rename_i o1 r
  split at h
  ·rename_i j' b' hgd
   split at h
   ·rename_i g' dj o rest' f' hact hdj hsk
    split at h
    ·rename_i d' t x y hdst hop
     cases hc : (wantA ol act o f && Nat.blt d' n && Nat.beq t dj) with
     | false => rw [hc] at h; cases h
     | true =>
      rw [hc] at h
      dsimp only [cond_true] at h
      simp only [Bool.and_eq_true] at hc
      have main : bb = b' → g = g' → j = j' → d = d' → rest = rest' → (∀ F : Fr, lk F t = some (.bool g') → g' = !b' → ∀ w, Run P o F w (.value (.bool (!b'))) w) →
        actH ol j f = some g ∧ (g = !bb → (∀ w, WL P n ol rest K ((d, .bool (!bb)) :: f) w → WL P n ol (o1 :: r) K f w) ∧ (WQ P n ol rest C KQ ((d, .bool (!bb)) :: f) → WQ P n ol (o1 :: r) C KQ f)) := by
       rintro rfl rfl rfl rfl rfl hrun
       refine ⟨hact, fun hg => ?_⟩
       obtain ⟨h1, h2, h3⟩ := skG_ok (P := P) (K := K) (KQ := KQ) (C := C) (by rw [hact, hg]) hsk
       obtain ⟨oj, dj', e1, e2, e3⟩ := actH_ok hact
       have hdd : dj' = dj := by
        unfold actD at hdj
        rw [e1] at hdj
        simp only at hdj
        rw [e2] at hdj
        exact Option.some.inj hdj
       have ht : lk f' t = some (.bool g) := by
        rw [Nat.eq_of_beq_eq_true hc.2, ← hdd]
        exact h1 _ _ e3
       exact ⟨fun w hl => h2 w (WL.val (wantA_ok' (ha.subS h1) hc.1.1) hdst hc.1.2 (hrun f' ht hg w) (WL.subS h1.head hl)),
        fun hl => h3 (WQ.val (wantA_ok' (ha.subS h1) hc.1.1) hdst hc.1.2 (fun w _ => hrun f' ht hg w) (WQ.subS h1.head hl))⟩
      split at h
      ·simp only [Option.some.injEq, Prod.mk.injEq] at h
       obtain ⟨rfl, rfl, rfl, rfl, rfl⟩ := h
       exact main rfl rfl rfl rfl rfl fun F hF hg w => Run.pickF hop hF hg rfl
      ·simp only [Option.some.injEq, Prod.mk.injEq] at h
       obtain ⟨rfl, rfl, rfl, rfl, rfl⟩ := h
       exact main rfl rfl rfl rfl rfl fun F hF hg w => Run.pickT hop hF hg rfl
      ·cases h
    ·cases h
   ·cases h
  ·cases h
 ·cases h
def pickH (n : Nat) (ol : List Oper) (act : List (Nat × Bool)) (o : Oper) (bb : Bool) (F : Fr) : Option (Nat × Bool × Bool) :=
 match o.dst, o.op with
 | some d, .pick c x y => bif wantA ol act o F && Nat.blt d n then (match ev F c, (bif bb then ev F x else ev F y) with
  | some (.bool g), some (.bool b) => some (d, g, b)
  | _, _ => none) else none
 | _, _ => none
theorem pickH_ok {o : Oper} {bb : Bool} {F : Fr} {d : Nat} {g b : Bool} (ha : Acts ol act F) (h : pickH n ol act o bb F = some (d, g, b)) : want ol o F = some true ∧ o.dst = some d ∧ Nat.blt d n = true ∧ (g = bb → ∀ w, Run P o F w (.value (.bool b)) w) := by
 unfold pickH at h
 split at h
 ·rename_i d' c x y h2 h3
  cases hn : (wantA ol act o F && Nat.blt d' n) with
  | false => rw [hn] at h; cases h
  | true =>
   rw [hn] at h
   dsimp only [cond_true] at h
   simp only [Bool.and_eq_true] at hn
   split at h
   ·rename_i g' b' hc hb
    simp only [Option.some.injEq, Prod.mk.injEq] at h
    obtain ⟨rfl, rfl, rfl⟩ := h
    refine ⟨wantA_ok ha hn.1, h2, hn.2, fun hg w => ?_⟩
    cases bb with
    | true => exact Run.pickT h3 hc hg hb
    | false => exact Run.pickF h3 hc hg hb
   ·cases h
 ·cases h
theorem WL.gA {l rest : List Oper} {f : Fr} {g b : Bool} {j d : Nat} (e : Nat) (ha : Acts ol act f) (hst : St w0 T L w) (hh : grpH n ol act e l f = some (true, g, j, d, rest)) (hT : g = true → (∀ w', St w0 T L w' → WL P n ol rest K ((d, .bool (g && b)) :: f) w') → WL P n ol l K f w)
  (J : (∀ w', St w0 T L w' → WL P n ol rest K ((d, .bool (g && b)) :: f) w')) : WL P n ol l K f w := by
 obtain ⟨h1, h2⟩ := grpH_ok (P := P) (K := K) (KQ := fun _ => True) (C := fun _ => True) ha hh
 cases g with
 | true => exact hT rfl J
 | false => exact (h2 rfl).1 w (J w hst)
theorem WL.eA {o : Oper} {rest : List Oper} {F f : Fr} {g b : Bool} {d : Nat} (k : Nat) (ha : Acts ol act F) (J : (∀ w', St w0 T L w' → WL P n ol rest K ((d, .bool (g && b)) :: f) w')) (hst : St w0 T L w) (hg : g = true) (hp : pickH n ol act o true F = some (d, g, b)) (hs : subB f k F = some f) : WL P n ol (o :: rest) K F w := by
 obtain ⟨h1, h2, h3, h4⟩ := pickH_ok (P := P) ha hp
 refine WL.val h1 h2 h3 (h4 hg w) (WL.subS (subB_ok hs).head ?_)
 have := J w hst
 rwa [hg, Bool.true_and] at this
theorem WL.pA {l rest : List Oper} {o : Oper} {f F : Fr} {g b : Bool} {j d : Nat} {S : Prop} (htb : tb.Ok P) (e : Nat) (ha : Acts ol act f) (hst : St w0 T L w) (h : List Nat) (hh : grpH n ol act e l f = some (true, g, j, d, rest)) (hr : runs tb n ol L ((j, true) :: act) e l f h True = some (o :: rest, F, S)) (hp : pickH n ol act o true F = some (d, g, b)) (hs : subB f e F = some f) (hS : g = true → S)
  (k : WL P n ol rest K ((d, .bool (g && b)) :: f) w) : WL P n ol l K f w := by
 obtain ⟨h1, h2⟩ := grpH_ok (P := P) (K := K) (KQ := fun _ => True) (C := fun _ => True) ha hh
 cases hg : g with
 | true =>
  subst hg
  obtain ⟨p1, p2, p3, p4⟩ := pickH_ok (P := P) (ha.subS (subB_ok hs)) hp
  refine WL.runA htb e (ha.cons h1 rfl) hst h hr (hS rfl) (WL.val p1 p2 p3 (p4 rfl w) (WL.subS (subB_ok hs).head ?_))
  rwa [Bool.true_and] at k
 | false => subst hg; exact (h2 rfl).1 w k
theorem WQ.gA {l rest : List Oper} {f : Fr} {g b : Bool} {j d : Nat} (e : Nat) (ha : Acts ol act f) (hh : grpH n ol act e l f = some (true, g, j, d, rest)) (hT : g = true → WQ P n ol rest C KQ ((d, .bool (g && b)) :: f) → WQ P n ol l C KQ f)
  (J : WQ P n ol rest C KQ ((d, .bool (g && b)) :: f)) : WQ P n ol l C KQ f := by
 obtain ⟨h1, h2⟩ := grpH_ok (P := P) (K := fun _ _ => True) (KQ := KQ) (C := C) ha hh
 cases g with
 | true => exact hT rfl J
 | false => exact (h2 rfl).2 J
theorem WQ.eA {o : Oper} {rest : List Oper} {F f : Fr} {g b : Bool} {d : Nat} (k : Nat) (ha : Acts ol act F) (J : WQ P n ol rest C KQ ((d, .bool (g && b)) :: f)) (hg : g = true) (hp : pickH n ol act o true F = some (d, g, b)) (hs : subB f k F = some f) : WQ P n ol (o :: rest) C KQ F := by
 obtain ⟨h1, h2, h3, h4⟩ := pickH_ok (P := P) ha hp
 refine WQ.val h1 h2 h3 (fun w _ => h4 hg w) (WQ.subS (subB_ok hs).head ?_)
 rwa [hg, Bool.true_and] at J
theorem WQ.pA {l rest : List Oper} {o : Oper} {f F : Fr} {g b : Bool} {j d : Nat} {S : Prop} (htb : tb.Ok P) (e : Nat) (ha : Acts ol act f) (h : List Nat) (hh : grpH n ol act e l f = some (true, g, j, d, rest)) (hr : runs tb n ol L ((j, true) :: act) e l f h True = some (o :: rest, F, S)) (hp : pickH n ol act o true F = some (d, g, b)) (hs : subB f e F = some f) (hS : g = true → S)
  (k : WQ P n ol rest (fun w' => St w0 T L w') KQ ((d, .bool (g && b)) :: f)) : WQ P n ol l (fun w' => St w0 T L w') KQ f := by
 obtain ⟨h1, h2⟩ := grpH_ok (P := P) (K := fun _ _ => True) (KQ := KQ) (C := fun w' => St w0 T L w') ha hh
 cases hg : g with
 | true =>
  subst hg
  obtain ⟨p1, p2, p3, p4⟩ := pickH_ok (P := P) (ha.subS (subB_ok hs)) hp
  refine WQ.runA htb e (ha.cons h1 rfl) h hr (hS rfl) (WQ.val p1 p2 p3 (fun w _ => p4 rfl w) (WQ.subS (subB_ok hs).head ?_))
  rwa [Bool.true_and] at k
 | false => subst hg; exact (h2 rfl).2 k
theorem WL.gO {l rest : List Oper} {f : Fr} {g b : Bool} {j d : Nat} (e : Nat) (ha : Acts ol act f) (hst : St w0 T L w) (hh : grpH n ol act e l f = some (false, g, j, d, rest)) (hT : g = false → (∀ w', St w0 T L w' → WL P n ol rest K ((d, .bool (g || b)) :: f) w') → WL P n ol l K f w)
  (J : (∀ w', St w0 T L w' → WL P n ol rest K ((d, .bool (g || b)) :: f) w')) : WL P n ol l K f w := by
 obtain ⟨h1, h2⟩ := grpH_ok (P := P) (K := K) (KQ := fun _ => True) (C := fun _ => True) ha hh
 cases g with
 | false => exact hT rfl J
 | true => exact (h2 rfl).1 w (J w hst)
theorem WL.eO {o : Oper} {rest : List Oper} {F f : Fr} {g b : Bool} {d : Nat} (k : Nat) (ha : Acts ol act F) (J : (∀ w', St w0 T L w' → WL P n ol rest K ((d, .bool (g || b)) :: f) w')) (hst : St w0 T L w) (hg : g = false) (hp : pickH n ol act o false F = some (d, g, b)) (hs : subB f k F = some f) : WL P n ol (o :: rest) K F w := by
 obtain ⟨h1, h2, h3, h4⟩ := pickH_ok (P := P) ha hp
 refine WL.val h1 h2 h3 (h4 hg w) (WL.subS (subB_ok hs).head ?_)
 have := J w hst
 rwa [hg, Bool.false_or] at this
theorem WL.pO {l rest : List Oper} {o : Oper} {f F : Fr} {g b : Bool} {j d : Nat} {S : Prop} (htb : tb.Ok P) (e : Nat) (ha : Acts ol act f) (hst : St w0 T L w) (h : List Nat) (hh : grpH n ol act e l f = some (false, g, j, d, rest)) (hr : runs tb n ol L ((j, false) :: act) e l f h True = some (o :: rest, F, S)) (hp : pickH n ol act o false F = some (d, g, b)) (hs : subB f e F = some f) (hS : g = false → S)
  (k : WL P n ol rest K ((d, .bool (g || b)) :: f) w) : WL P n ol l K f w := by
 obtain ⟨h1, h2⟩ := grpH_ok (P := P) (K := K) (KQ := fun _ => True) (C := fun _ => True) ha hh
 cases hg : g with
 | false =>
  subst hg
  obtain ⟨p1, p2, p3, p4⟩ := pickH_ok (P := P) (ha.subS (subB_ok hs)) hp
  refine WL.runA htb e (ha.cons h1 rfl) hst h hr (hS rfl) (WL.val p1 p2 p3 (p4 rfl w) (WL.subS (subB_ok hs).head ?_))
  rwa [Bool.false_or] at k
 | true => subst hg; exact (h2 rfl).1 w k
theorem WQ.gO {l rest : List Oper} {f : Fr} {g b : Bool} {j d : Nat} (e : Nat) (ha : Acts ol act f) (hh : grpH n ol act e l f = some (false, g, j, d, rest)) (hT : g = false → WQ P n ol rest C KQ ((d, .bool (g || b)) :: f) → WQ P n ol l C KQ f)
  (J : WQ P n ol rest C KQ ((d, .bool (g || b)) :: f)) : WQ P n ol l C KQ f := by
 obtain ⟨h1, h2⟩ := grpH_ok (P := P) (K := fun _ _ => True) (KQ := KQ) (C := C) ha hh
 cases g with
 | false => exact hT rfl J
 | true => exact (h2 rfl).2 J
theorem WQ.eO {o : Oper} {rest : List Oper} {F f : Fr} {g b : Bool} {d : Nat} (k : Nat) (ha : Acts ol act F) (J : WQ P n ol rest C KQ ((d, .bool (g || b)) :: f)) (hg : g = false) (hp : pickH n ol act o false F = some (d, g, b)) (hs : subB f k F = some f) : WQ P n ol (o :: rest) C KQ F := by
 obtain ⟨h1, h2, h3, h4⟩ := pickH_ok (P := P) ha hp
 refine WQ.val h1 h2 h3 (fun w _ => h4 hg w) (WQ.subS (subB_ok hs).head ?_)
 rwa [hg, Bool.false_or] at J
theorem WQ.pO {l rest : List Oper} {o : Oper} {f F : Fr} {g b : Bool} {j d : Nat} {S : Prop} (htb : tb.Ok P) (e : Nat) (ha : Acts ol act f) (h : List Nat) (hh : grpH n ol act e l f = some (false, g, j, d, rest)) (hr : runs tb n ol L ((j, false) :: act) e l f h True = some (o :: rest, F, S)) (hp : pickH n ol act o false F = some (d, g, b)) (hs : subB f e F = some f) (hS : g = false → S)
  (k : WQ P n ol rest (fun w' => St w0 T L w') KQ ((d, .bool (g || b)) :: f)) : WQ P n ol l (fun w' => St w0 T L w') KQ f := by
 obtain ⟨h1, h2⟩ := grpH_ok (P := P) (K := fun _ _ => True) (KQ := KQ) (C := fun w' => St w0 T L w') ha hh
 cases hg : g with
 | false =>
  subst hg
  obtain ⟨p1, p2, p3, p4⟩ := pickH_ok (P := P) (ha.subS (subB_ok hs)) hp
  refine WQ.runA htb e (ha.cons h1 rfl) h hr (hS rfl) (WQ.val p1 p2 p3 (fun w _ => p4 rfl w) (WQ.subS (subB_ok hs).head ?_))
  rwa [Bool.false_or] at k
 | true => subst hg; exact (h2 rfl).2 k
end
section
variable {β : Type}
def copyK : List Value → (List Value → Option β) → Option β
 | [], k => k []
 | v :: r, k => copyK r fun q => k (v :: q)
def setK : List Value → Nat → Value → (List Value → Option β) → Option β
 | [], _, _, _ => none
 | _ :: r, 0, v, k => k (v :: r)
 | x :: r, i + 1, v, k => setK r i v fun q => k (x :: q)
def overK : List Value → List Value → (List Value → Option β) → Option β
 | r, [], k => k r
 | [], _ :: _, _ => none
 | _ :: r, v :: vs, k => overK r vs fun q => k (v :: q)
def repK : List Value → Nat → List Value → (List Value → Option β) → Option β
 | r, 0, vs, k => overK r vs k
 | [], _ + 1, _, _ => none
 | x :: r, i + 1, vs, k => repK r i vs fun q => k (x :: q)
def setLK : Hp → Nat → Obj → (Hp → Option β) → Option β
 | [], _, _, _ => none
 | (b, _) :: r, 0, o, k => k ((b, o) :: r)
 | p :: r, i + 1, o, k => setLK r i o fun q => k (p :: q)
theorem copyK_some {x : β} : ∀ {l : List Value} {k : List Value → Option β}, copyK l k = some x → k l = some x
 | [], _, h => h
 | v :: r, k, h => copyK_some (l := r) (k := fun q => k (v :: q)) h
theorem setK_some {x : β} : ∀ {l : List Value} {i : Nat} {v : Value} {k : List Value → Option β}, setK l i v k = some x → k (l.set i v) = some x ∧ i < l.length
 | [], _, _, _, h => by cases h
 | _ :: r, 0, v, k, h => ⟨h, by simp⟩
 | y :: r, i + 1, v, k, h => by
  have := setK_some (l := r) (i := i) (k := fun q => k (y :: q)) h
  exact ⟨this.1, by simpa using this.2⟩
theorem overK_some {x : β} : ∀ {l vs : List Value} {k : List Value → Option β}, overK l vs k = some x → k (vs ++ l.drop vs.length) = some x ∧ vs.length ≤ l.length
 | l, [], k, h => by
  have h' : k l = some x := by cases l <;> exact h
  exact ⟨by simpa using h', Nat.zero_le _⟩
 | [], _ :: _, _, h => by cases h
 | _ :: r, v :: vs, k, h => by
  have := overK_some (l := r) (vs := vs) (k := fun q => k (v :: q)) h
  exact ⟨by simpa using this.1, by simpa using this.2⟩
theorem repK_some {x : β} : ∀ {l vs : List Value} {i : Nat} {k : List Value → Option β}, repK l i vs k = some x → k (l.take i ++ vs ++ l.drop (i + vs.length)) = some x ∧ i + vs.length ≤ l.length
 | l, vs, 0, k, h => by
  have h' : overK l vs k = some x := by cases l <;> exact h
  have := overK_some h'
  exact ⟨by simpa using this.1, by simpa using this.2⟩
 | [], _, _ + 1, _, h => by cases h
 | y :: r, vs, i + 1, k, h => by
  have := repK_some (l := r) (vs := vs) (i := i) (k := fun q => k (y :: q)) h
  refine ⟨?_, by have := this.2; simp only [List.length_cons]; omega⟩
  have e : i + 1 + vs.length = (i + vs.length) + 1 := by omega
  rw [e, List.take_succ_cons, List.drop_succ_cons]
  exact this.1
theorem setLK_some {x : β} : ∀ {l : Hp} {i : Nat} {o : Obj} {k : Hp → Option β}, setLK l i o k = some x → k (setL l i o) = some x
 | [], _, _, _, h => by cases h
 | (b, _) :: r, 0, o, k, h => h
 | p :: r, i + 1, o, k, h => setLK_some (l := r) (i := i) (k := fun q => k (p :: q)) h
end
def oneB (v : Value) : Bool := v.oneCell'
def stC (tb : TT) (o : Oper) (f : Fr) (L : Hp) (i : Nat) : Option (Hp × Prop) :=
 match o.guard, o.dst, o.op with
 | none, none, .store t x y => (match tb.get t, ev f x, ev f y, nthL L i with
  | some ⟨_, sz, ag⟩, some (.pointer (some ⟨b, off, none⟩)), some v, some (b', .cells cs e (lo, hi)) => bif Nat.ble hi lo then (match ag, v with
   | true, .agg vs => bif vs.toList.all oneB && Nat.beq vs.toList.length sz then repK cs.toList off vs.toList (fun cl => setLK L i (.cells cl.toArray e (lo, hi)) fun L' => some (L', b' = b)) else none
   | false, v => bif oneB v && Nat.beq sz 1 then setK cs.toList off v (fun cl => setLK L i (.cells cl.toArray e (lo, hi)) fun L' => some (L', b' = b)) else none
   | _, _ => none) else none
  | _, _, _, _ => none)
 | _, _, _ => none
section
variable {P : Program} {tb : TT} {w0 w : World} {T : List Nat} {L : Hp} {n : Nat} {ol rest : List Oper} {K : Fr → World → Prop} {f : Fr} {o : Oper}
theorem WL.st (htb : tb.Ok P) (hst : St w0 T L w) (i : Nat) {L' : Hp} {S : Prop} (h : stC tb o f L i = some (L', S)) (hS : S) (k : ∀ w', St w0 T L' w' → WL P n ol rest K f w') : WL P n ol (o :: rest) K f w := by
 unfold stC at h
 split at h
 ·rename_i t x y hg hd ho
  split at h
  ·rename_i sz ag b off v b' cs e lo hi ht hx hy hL
   obtain ⟨-, hz, hag⟩ := TT.get_ok htb ht
   cases hle : Nat.ble hi lo with
   | false => rw [hle] at h; cases h
   | true =>
    rw [hle] at h
    dsimp only [cond_true] at h
    have hle' := Nat.le_of_ble_eq_true hle
    split at h
    ·rename_i vs
     cases hc : (vs.toList.all oneB && Nat.beq vs.toList.length sz) with
     | false => rw [hc] at h; cases h
     | true =>
      rw [hc] at h
      dsimp only [cond_true] at h
      simp only [Bool.and_eq_true] at hc
      obtain ⟨h1, h2⟩ := repK_some h
      have h3 := setLK_some h1
      simp only [Option.some.injEq, Prod.mk.injEq] at h3
      obtain ⟨rfl, rfl⟩ := h3
      obtain rfl : b' = b := hS
      have hsz := Nat.eq_of_beq_eq_true hc.2
      have h4 : off + sz ≤ cs.toList.length := by rw [← hsz]; exact h2
      refine WL.storeA (cl := cs.toList) (vs := vs.toList) hst i hz ho (want_none hg) hd hx hy rfl (by simpa using hL) hc.1 hsz h4 (.inl hle') fun w' hw' => k w' ?_
      rw [hsz] at h1 h2
      simpa [hsz] using hw'
    ·cases hc : (oneB v && Nat.beq sz 1) with
     | false => rw [hc] at h; cases h
     | true =>
      rw [hc] at h
      dsimp only [cond_true] at h
      simp only [Bool.and_eq_true] at hc
      obtain ⟨h1, h2⟩ := setK_some h
      have h3 := setLK_some h1
      simp only [Option.some.injEq, Prod.mk.injEq] at h3
      obtain ⟨rfl, rfl⟩ := h3
      obtain rfl : b' = b := hS
      have hsz := Nat.eq_of_beq_eq_true hc.2
      subst hsz
      exact WL.storeI (cl := cs.toList) hst i hz ho (want_none hg) hd hx hy (by simpa using hL) hc.1 h2 (by omega) fun w' hw' => k w' hw'
    ·cases h
  ·cases h
 ·cases h
def cellsK (v : Value) : Option (List Value) :=
 match v with
 | .agg cs => copyK cs.toList some
 | v => some [v]
theorem cellsK_ok {v : Value} {cl : List Value} (h : cellsK v = some cl) : cellsOf v = cl := by
 cases v with
 | agg cs => exact Option.some.inj (copyK_some h)
 | _ => exact Option.some.inj h
def bxC (n : Nat) (o : Oper) (f : Fr) : Option (Nat × TypeId × List Value) :=
 match o.guard, o.dst, o.op with
 | none, some d, .box t x => (match ev f x with
  | some v => bif Nat.blt d n then (match cellsK v with
   | some cl => some (d, t, cl)
   | none => none) else none
  | none => none)
 | _, _, _ => none
theorem WL.bx (hst : St w0 T L w) {d : Nat} {t : TypeId} {cl : List Value} (h : bxC n o f = some (d, t, cl)) (k : ∀ b w', St w0 T ((b, .cells cl.toArray t (0, 0)) :: L) w' → WL P n ol rest K ((d, .pointer (some ⟨b, 0, none⟩)) :: f) w') : WL P n ol (o :: rest) K f w := by
 unfold bxC at h
 split at h
 ·rename_i d' t' x hg hd ho
  split at h
  ·rename_i v hx
   cases hn : Nat.blt d' n with
   | false => rw [hn] at h; cases h
   | true =>
    rw [hn] at h
    dsimp only [cond_true] at h
    split at h
    ·rename_i cl' hcl
     simp only [Option.some.injEq, Prod.mk.injEq] at h
     obtain ⟨rfl, rfl, rfl⟩ := h
     exact WL.box hst ho (want_none hg) hd hn hx (cellsK_ok hcl) k
    ·cases h
  ·cases h
 ·cases h
def alC (n : Nat) (o : Oper) : Option (Nat × TypeId) :=
 match o.guard, o.dst, o.op with
 | none, some d, .alloc t => bif Nat.blt d n then some (d, t) else none
 | _, _, _ => none
theorem WL.al (hst : St w0 T L w) {d : Nat} {t : TypeId} {z : Value} {cl : List Value} (hz : ∀ w, (zeroValue t).run P w = .ok z w) (h : alC n o = some (d, t)) (hc : cellsK z = some cl) (k : ∀ b w', St w0 T ((b, .cells cl.toArray t (0, 0)) :: L) w' → WL P n ol rest K ((d, .pointer (some ⟨b, 0, none⟩)) :: f) w') : WL P n ol (o :: rest) K f w := by
 unfold alC at h
 split at h
 ·rename_i d' t' hg hd ho
  cases hn : Nat.blt d' n with
  | false => rw [hn] at h; cases h
  | true =>
   rw [hn] at h
   simp only [cond_true, Option.some.injEq, Prod.mk.injEq] at h
   obtain ⟨rfl, rfl⟩ := h
   exact WL.alloc hst hz ho (want_none hg) hd hn (cellsK_ok hc) k
 ·cases h
end
def dtK (cs : List Value) (off sz : Nat) : Option (List Value) := dropK cs off fun l => takeK l sz some
theorem dtK_ok {cs vs : List Value} {off sz : Nat} (h : dtK cs off sz = some vs) : (cs.drop off).take sz = vs ∧ vs.length = sz := by
 obtain ⟨h1, h2⟩ := dropK_some h
 obtain ⟨h3, h4⟩ := takeK_some h1
 have e := Option.some.inj h3
 exact ⟨e, by rw [← e, List.length_take]; exact Nat.min_eq_left h4⟩
theorem resV.cellA {P : Program} {w0 w : World} {T : List Nat} {L : Hp} {tb : TT} {f : Fr} {a b sz : Nat} {t : TypeId} {k : TK} {cl vs : List Value} {e : TypeId} {fz : Nat × Nat} (htb : tb.Ok P) (hst : St w0 T L w) (i : Nat) (hl : lk f a = some (.pointer (some ⟨b, 0, none⟩))) (hi : nthL L i = some (b, .cells cl.toArray e fz)) (ht : tb.get t = some ⟨k, sz, true⟩) (hc : dtK cl 0 sz = some vs) : resV P f w (.cell a t) (.agg vs.toArray) := by
 obtain ⟨-, hz, hag⟩ := TT.get_ok htb ht
 obtain ⟨h1, h2⟩ := dtK_ok hc
 exact resV.cell hl (run_loadVarA hag hz (cells_of_heap (hst.own _ (nthL_mem hi)).1 h1 h2))
section
variable {P : Program} {tb : TT} {w0 w : World} {T : List Nat} {L : Hp} {n : Nat} {ol : List Oper} {act : List (Nat × Bool)} {K : Fr → World → Prop} {KQ : Fr → Prop} {C : World → Prop}
theorem WL.mono {l : List Oper} {K' : Fr → World → Prop} {f : Fr} (h : WL P n ol l K f w) (hk : ∀ f w, K f w → K' f w) : WL P n ol l K' f w := fun Q a ha hq => h Q a ha fun a' f' w' hg hh => hq a' f' w' hg (hk _ _ hh)
theorem WQ.mono {l : List Oper} {KQ' : Fr → Prop} {f : Fr} (h : WQ P n ol l C KQ f) (hk : ∀ f, KQ f → KQ' f) : WQ P n ol l C KQ' f := fun a ha => by
 refine (?_ : ∀ (l : List Oper) (a : Act), wpQuiet P _ C (fun a' => ∃ f', Good a' n f' ∧ KQ f') l a → wpQuiet P _ C (fun a' => ∃ f', Good a' n f' ∧ KQ' f') l a) l a (h a ha)
 intro l
 induction l with
 | nil =>
  rintro a ⟨f', hg, hh⟩
  exact ⟨f', hg, hk _ hh⟩
 | cons o r ih =>
  intro a ha
  unfold wpQuiet at ha ⊢
  split
  ·rename_i hw
   rw [if_pos hw] at ha
   exact Oper.quiet_mono ih ha
  ·rename_i hw
   rw [if_neg hw] at ha
   exact ih _ ha
theorem WC.sr {id : Nat} {l : List Oper} {y : Code} {Q : Kont} {f : Fr} (h : WL P n l l (fun f w => WC P n y Q f w) f w) : WC P n (.seq (.region id l.toArray false) y) Q f w :=
 WC.seq fun K hK => WC.region (h.mono fun f w hh => hK f w hh)
theorem WC.sq {id : Nat} {l : List Oper} {y : Code} {Q : Kont} {f : Fr} (hst : St w0 T L w) (hm : P.follows .mixedOrders = true) (hl : Region.lexB .any l.toArray = true) (h : WQ P n l l (fun w' => St w0 T L w') (fun f' => ∀ w', St w0 T L w' → WC P n y Q f' w') f) : WC P n (.seq (.region id l.toArray true) y) Q f w :=
 WC.seq fun K hK => WC.regionQ (fun w' => St w0 T L w') hm hl hst.drew (h.mono fun f' hh w' hw => hK f' w' (hh w' hw))
theorem WC.rr {id : Nat} {l : List Oper} {y : Code} {Q : Kont} {f f' : Fr} {S : Prop} (htb : tb.Ok P) (hst : St w0 T L w) (h : List Nat) (hr : runs tb n l L [] l.length l f h True = some ([], f', S)) (hS : S) (k : WC P n y Q f' w) : WC P n (.seq (.region id l.toArray false) y) Q f w :=
 WC.sr (WL.run htb l.length hst h hr hS (WL.nil k))
theorem WC.rq {id : Nat} {l : List Oper} {y : Code} {Q : Kont} {f f' : Fr} {S : Prop} (htb : tb.Ok P) (hst : St w0 T L w) (hm : P.follows .mixedOrders = true) (hl : Region.lexB .any l.toArray = true) (h : List Nat) (hr : runs tb n l L [] l.length l f h True = some ([], f', S)) (hS : S) (k : ∀ w', St w0 T L w' → WC P n y Q f' w') : WC P n (.seq (.region id l.toArray true) y) Q f w :=
 WC.sq hst hm hl (WQ.run htb l.length h hr hS (WQ.nil k))
theorem WC.cD {c : Operand} {x y : Code} {p : Prop} [Decidable p] {Q : Kont} {f : Fr} (hc : ev f c = some (.bool (decide p))) (hx : p → WC P n x Q f w) (hy : ¬ p → WC P n y Q f w) : WC P n (.cond c x y) Q f w :=
 WC.cond hc (fun h => hx (of_decide_eq_true h)) (fun h => hy (of_decide_eq_false h))
theorem u8_in (b : UInt8) : In64 (b.toNat : Int) := by have := b.toNat_lt; constructor <;> omega
theorem bf : (∀ (p : Prop) [Decidable p], (decide p = true) = p) ∧ (∀ (p : Prop) [Decidable p], (decide p = false) = ¬ p) ∧ (∀ b : Bool, ((!b) = true) = (b = false)) ∧ (∀ b : Bool, ((!b) = false) = (b = true)) ∧ (∀ a b : Bool, ((a && b) = true) = (a = true ∧ b = true)) ∧ (∀ a b : Bool, ((a || b) = false) = (a = false ∧ b = false)) :=
 ⟨fun _ _ => by simp, fun _ _ => by simp, fun b => by simp, fun b => by simp, fun a b => by simp, fun a b => by simp⟩
end
theorem St.takes1 (w : World) (L1 : Hp) (h1 : ∀ p, p ∈ L1 → w.heap[p.1]? = some p.2) (hd : (L1.map (·.1)).Nodup) : St w (L1.map (·.1)) (L1 ++ []) w := St.lent w L1 h1 hd
def OwnN {α : Type} (F : Enc α) (own : α → Hp → Prop) (e : TypeId) (v : Value) (xs : List α) (L : Hp) : Prop := ∃ L0 Lb, L = L0 ++ Lb ∧ OwnF F e v xs L0 ∧ Bag own xs Lb
section
variable {α : Type} {F : Enc α} {own : α → Hp → Prop} {e : TypeId} {v : Value} {xs ys : List α} {L L0 Lb R : Hp} {w0 w : World} {T : List Nat} {A : Option Addr} {n c : Nat}
theorem OwnN.nil (F : Enc α) (own : α → Hp → Prop) (e : TypeId) : OwnN F own e (.slice none 0 0) [] [] := ⟨[], [], rfl, OwnF.nil F e, Bag.nil⟩
theorem OwnN.nilA (F : Enc α) (own : α → Hp → Prop) (e : TypeId) (A : Option Addr) : OwnN F own e (.slice A 0 0) [] [] := ⟨[], [], rfl, OwnF.nilA F e A, Bag.nil⟩
theorem OwnN.shape (h : OwnN F own e v xs L) : ∃ A c, v = .slice A xs.length c := by
 obtain ⟨L0, Lb, rfl, h1, h2⟩ := h
 exact h1.shape
theorem OwnN.len_ (h : OwnN F own e (.slice A n c) xs L) : xs.length = n := by
 obtain ⟨L0, Lb, rfl, h1, h2⟩ := h
 exact h1.len_
theorem OwnN.cap (h : OwnN F own e (.slice A n c) xs L) : n ≤ c := by
 obtain ⟨L0, Lb, rfl, h1, h2⟩ := h
 exact h1.cap
theorem OwnN.eqOf (_ : OwnN F own e v ys L) (h : ys = xs) : ys = xs := h
theorem OwnN.ok {ok : World → α → Prop} (h : OwnN F own e (.slice A n c) xs L) (hh : ∀ p, p ∈ L → w.heap[p.1]? = some p.2) (hk : ∀ x Li, x ∈ xs → own x Li → (∀ p, p ∈ Li → w.heap[p.1]? = some p.2) → ok w x) : SlN F ok w A n xs := by
 obtain ⟨L0, Lb, rfl, h1, h2⟩ := h
 refine ⟨SlF.ofOwn h1 fun p hp => hh p (List.mem_append_left _ hp), fun x hx => ?_⟩
 obtain ⟨Li, h3, h4⟩ := h2.mem x hx
 exact hk x Li hx h3 fun p hp => hh p (List.mem_append_right _ (h4 p hp))
theorem OwnN.sl (h : OwnN F own e (.slice A n c) xs L) (hh : ∀ p, p ∈ L → w.heap[p.1]? = some p.2) : SlF F w A n xs := by
 obtain ⟨L0, Lb, rfl, h1, h2⟩ := h
 exact SlF.ofOwn h1 fun p hp => hh p (List.mem_append_left _ hp)
theorem OwnN.fold (hs : St w0 T (L0 ++ (Lb ++ R)) w) (o : OwnF F e v xs L0) (b : Bag own xs Lb) : ∃ L, St w0 T (L ++ R) w ∧ OwnN F own e v xs L :=
 ⟨L0 ++ Lb, by simpa only [List.append_assoc] using hs, L0, Lb, rfl, o, b⟩
theorem OwnN.open_ (hs : St w0 T (L ++ R) w) (h : OwnN F own e v xs L) : ∃ L0 Lb, St w0 T (L0 ++ (Lb ++ R)) w ∧ OwnF F e v xs L0 ∧ Bag own xs Lb := by
 obtain ⟨L0, Lb, rfl, o, b⟩ := h
 exact ⟨L0, Lb, by simpa only [List.append_assoc] using hs, o, b⟩
theorem Bag.out {i : Nat} (hs : St w0 T (Lb ++ R) w) (b : Bag own xs Lb) (hi : i < xs.length) : ∃ La Li Lc, St w0 T (Li ++ ((La ++ Lc) ++ R)) w ∧ own (gat F xs i) Li ∧ (∀ {w' : World} {T' : List Nat} {R' : Hp} (x' : α) (Li' : Hp), St w0 T' (Li' ++ ((La ++ Lc) ++ R')) w' → own x' Li' → ∃ Lb', St w0 T' (Lb' ++ R') w' ∧ Bag own (xs.set i x') Lb') := by
 obtain ⟨La, Li, Lc, rfl, h1, h2⟩ := Bag.nth (F := F) b hi
 refine ⟨La, Li, Lc, hs.perm ?_, h1, fun x' Li' hs' hx => ⟨_, hs'.perm ?_, h2 x' Li' hx⟩⟩
 ·simp only [List.append_assoc]
  exact (List.perm_append_comm_assoc _ _ _)
 ·simp only [List.append_assoc]
  exact (List.perm_append_comm_assoc _ _ _)
theorem Bag.replace {i : Nat} {Lr : Hp} {r : α} (hs : St w0 T (Lb ++ (Lr ++ R)) w) (b : Bag own xs Lb) (hi : i < xs.length) (hr : own r Lr) : ∃ Lb', St w0 T (Lb' ++ R) w ∧ Bag own (xs.set i r) Lb' := by
 obtain ⟨La, Li, Lc, rfl, h1, h2⟩ := Bag.nth (F := ⟨1, fun _ => [.bool true], r, fun _ => rfl, fun _ _ h => by simp at h; subst h; rfl, by decide⟩) b hi
 refine ⟨La ++ (Lr ++ Lc), St.perm (hs.drop (L' := La ++ (Lc ++ (Lr ++ R))) ?_) ?_, h2 r Lr hr⟩
 ·simp only [List.append_assoc]
  exact List.Sublist.append_left (List.sublist_append_right Li _) La
 ·simp only [List.append_assoc]
  exact List.Perm.append_left La (List.perm_append_comm_assoc _ _ _)
theorem Bag.same : ∀ {xs : List α} {i : Nat} {Lb : Hp} {x : α}, Bag own xs Lb → (∀ y L, xs[i]? = some y → own y L → own x L) → Bag own (xs.set i x) Lb
 | [], _, _, _, b, _ => b
 | y :: r, 0, _, x, b, h => by
  obtain ⟨L1, L2, rfl, h1, h2⟩ := b
  exact ⟨L1, L2, rfl, h y L1 rfl h1, h2⟩
 | y :: r, i + 1, _, x, b, h => by
  obtain ⟨L1, L2, rfl, h1, h2⟩ := b
  exact ⟨L1, L2, rfl, h1, Bag.same h2 fun z L hz hl => h z L (by simpa using hz) hl⟩
theorem Bag.dflts {n : Nat} {d : α} (h : own d []) : Bag own (List.replicate n d) [] := by
 induction n with
 | zero => exact rfl
 | succ n ih => exact ⟨[], [], rfl, h, ih⟩
theorem OwnN.new {n : Nat} {d : α} (hs : St w0 T (L ++ R) w) (o : OwnF F e v (List.replicate n d) L) (h : own d []) : ∃ L', St w0 T (L' ++ R) w ∧ OwnN F own e v (List.replicate n d) L' :=
 ⟨L ++ [], by simpa using hs, L, [], rfl, o, Bag.dflts h⟩
theorem OwnN.fresh {xs : List α} (hs : St w0 T (L ++ R) w) (o : OwnF F e v xs L) (h : Bag own xs []) : ∃ L', St w0 T (L' ++ R) w ∧ OwnN F own e v xs L' :=
 ⟨L ++ [], by simpa using hs, L, [], rfl, o, h⟩
theorem OwnF.recast (h : OwnF F e v xs L) (hl : ys.length = xs.length) (hr : rows F ys = rows F xs) : OwnF F e v ys L := by
 unfold OwnF; rw [hl, hr]; exact h
end
abbrev SlD.of {α : Type} {F : Enc α} {e : TypeId} {A : Option Addr} {n c : Nat} {xs : List α} {L : Hp} (_ : OwnF F e (.slice A n c) xs L) : SlD α := ⟨A, n, c, xs⟩
abbrev SlD.ofN {α : Type} {F : Enc α} {own : α → Hp → Prop} {e : TypeId} {A : Option Addr} {n c : Nat} {xs : List α} {L : Hp} (_ : OwnN F own e (.slice A n c) xs L) : SlD α := ⟨A, n, c, xs⟩
abbrev SlD.rd {α : Type} {F : Enc α} {w : World} {A : Option Addr} {n c : Nat} {xs : List α} (_ : SlF F w A n xs) (_ : n ≤ c) : SlD α := ⟨A, n, c, xs⟩
theorem rows_set_enc {α : Type} {F : Enc α} {xs : List α} {i : Nat} {x y : α} (h : F.enc x = F.enc y) : rows F (xs.set i x) = rows F (xs.set i y) := by
 unfold rows
 induction xs generalizing i with
 | nil => rfl
 | cons z r ih =>
  cases i with
  | zero => simp only [List.set_cons_zero, List.flatMap_cons, h]
  | succ i => simp only [List.set_cons_succ, List.flatMap_cons, ih]
theorem set_at {α : Type} {ys : List α} {d r : α} {i m : Nat} (hl : ys.length = i) (hm : i < m) : (ys ++ List.replicate (m - i) d).set i r = (ys ++ [r]) ++ List.replicate (m - (i + 1)) d := by
 obtain ⟨q, hq⟩ : ∃ q, m - i = q + 1 := ⟨m - i - 1, by omega⟩
 have hq2 : m - (i + 1) = q := by omega
 rw [hq, hq2, List.replicate_succ, List.set_append_right _ _ (by omega), hl, Nat.sub_self, List.set_cons_zero, List.append_assoc]
 rfl
def tots {α : Type} (f : α → Nat) (l : List α) : Nat := l.length + (l.map f).sum
theorem le_sum : ∀ {l : List Nat} {x : Nat}, x ∈ l → x ≤ l.sum
 | [], _, h => by cases h
 | y :: r, x, h => by
  rw [List.sum_cons]
  rcases List.mem_cons.1 h with rfl | h
  ·omega
  ·have := le_sum h; omega
theorem tots_mem {α : Type} {f : α → Nat} {l : List α} {x : α} (h : x ∈ l) : f x ≤ tots f l := by
 have : f x ≤ (l.map f).sum := le_sum (List.mem_map_of_mem h)
 unfold tots; omega
theorem tots_map {α β : Type} {f : β → Nat} {g : α → β} (l : List α) : tots f (l.map g) = l.length + (l.map fun x => f (g x)).sum := by
 simp only [tots, List.length_map, List.map_map]; rfl
theorem tots_len {α : Type} (f : α → Nat) (l : List α) : l.length ≤ tots f l := Nat.le_add_right _ _
theorem sum_take {α : Type} {F : Enc α} {f : α → Nat} {l : List α} {i : Nat} (h : i < l.length) : ((l.take (i + 1)).map f).sum = ((l.take i).map f).sum + f (gat F l i) := by
 rw [List.take_add_one, gat_get (F := F) h, List.map_append, List.sum_append]; simp
theorem sum_take_le {α : Type} {f : α → Nat} (l : List α) (i : Nat) : ((l.take i).map f).sum ≤ (l.map f).sum := by
 conv => rhs; rw [← List.take_append_drop i l, List.map_append, List.sum_append]
 exact Nat.le_add_right _ _
section
variable {α : Type} {mk : Int → α → α} {c : α → Int} {F : Enc α}
def cnts (c : α → Int) : List α → Int
 | [] => 0
 | x :: r => c x + cnts c r
def mrks (mk : Int → α → α) (c : α → Int) : Int → List α → List α
 | _, [] => []
 | k, x :: r => mk k x :: mrks mk c (k + c x) r
theorem mrks_len : ∀ {xs : List α} {k : Int}, (mrks mk c k xs).length = xs.length
 | [], _ => rfl
 | x :: r, k => by simp [mrks, mrks_len (xs := r)]
theorem cnts_append : ∀ {xs ys : List α}, cnts c (xs ++ ys) = cnts c xs + cnts c ys
 | [], ys => by simp [cnts]
 | x :: r, ys => by simp only [List.cons_append, cnts, cnts_append (xs := r)]; omega
theorem mrks_append : ∀ {xs ys : List α} {k : Int}, mrks mk c k (xs ++ ys) = mrks mk c k xs ++ mrks mk c (k + cnts c xs) ys
 | [], ys, k => by simp [mrks, cnts]
 | x :: r, ys, k => by
  simp only [List.cons_append, mrks, cnts, mrks_append (xs := r)]
  rw [show k + c x + cnts c r = k + (c x + cnts c r) by omega]
theorem cnts_take {xs : List α} {i : Nat} (h : i < xs.length) : cnts c (xs.take (i + 1)) = cnts c (xs.take i) + c (gat F xs i) := by
 rw [List.take_add_one, gat_get (F := F) h, cnts_append]; simp [cnts]
theorem cnts_nonneg (hc : ∀ x, 0 ≤ c x) : ∀ xs : List α, 0 ≤ cnts c xs
 | [] => Int.le_refl _
 | x :: r => by have := hc x; have := cnts_nonneg hc r; simp only [cnts]; omega
theorem cnts_take_le (hc : ∀ x, 0 ≤ c x) (xs : List α) (i : Nat) : cnts c (xs.take i) ≤ cnts c xs := by
 have h := cnts_append (c := c) (xs := xs.take i) (ys := xs.drop i)
 rw [List.take_append_drop] at h
 have := cnts_nonneg hc (xs.drop i)
 omega
theorem cnts_le {β : Type} {f : β → Nat} {g : α → β} (h : ∀ x, c x ≤ 64 + 64 * (f (g x) : Int)) : ∀ xs : List α, cnts c xs ≤ 64 * (tots f (xs.map g) : Int)
 | [] => by simp [cnts, tots]
 | x :: r => by
  have h1 := h x
  have h2 := cnts_le h r
  simp only [tots, List.map_cons, List.sum_cons, List.length_cons] at h2 ⊢
  simp only [cnts]
  omega
theorem mrks_all {P : α → Prop} (hm : ∀ k x, P x → P (mk k x)) : ∀ {k : Int} {xs : List α}, (∀ x, x ∈ xs → P x) → ∀ y, y ∈ mrks mk c k xs → P y
 | _, [], _, y, h => by cases h
 | k, x :: r, h, y, hy => by
  rcases List.mem_cons.1 hy with rfl | hy
  ·exact hm _ _ (h x List.mem_cons_self)
  ·exact mrks_all hm (fun z hz => h z (List.mem_cons_of_mem _ hz)) y hy
def mrkTo (mk : Int → α → α) (c : α → Int) (k : Int) (xs : List α) (i : Nat) : List α := mrks mk c k (xs.take i) ++ xs.drop i
theorem mrkTo_zero {xs : List α} {k : Int} : mrkTo mk c k xs 0 = xs := by simp [mrkTo, mrks]
theorem mrkTo_full {xs : List α} {k : Int} {i : Nat} (h : xs.length ≤ i) : mrkTo mk c k xs i = mrks mk c k xs := by simp [mrkTo, List.take_of_length_le h, List.drop_of_length_le h]
theorem mrkTo_len {xs : List α} {k : Int} {i : Nat} (h : i ≤ xs.length) : (mrkTo mk c k xs i).length = xs.length := by simp [mrkTo, mrks_len]; omega
theorem mrkTo_gat {xs : List α} {k : Int} {i : Nat} (h : i < xs.length) : gat F (mrkTo mk c k xs i) i = gat F xs i := by
 have hl : (mrks mk c k (xs.take i)).length = i := by rw [mrks_len, List.length_take]; omega
 unfold mrkTo gat
 rw [List.getD_eq_getElem?_getD, List.getElem?_append_right (by omega), hl, Nat.sub_self, List.getElem?_drop, Nat.add_zero, List.getD_eq_getElem?_getD]
theorem mrkTo_set {xs : List α} {k : Int} {i : Nat} {x : α} (h : i < xs.length) (hx : x = mk (k + cnts c (xs.take i)) (gat F xs i)) : (mrkTo mk c k xs i).set i x = mrkTo mk c k xs (i + 1) := by
 have hl : (mrks mk c k (xs.take i)).length = i := by rw [mrks_len, List.length_take]; omega
 unfold mrkTo
 rw [List.set_append_right _ _ (by omega), hl, Nat.sub_self, List.drop_eq_getElem_cons h, List.set_cons_zero, List.take_add_one, gat_get (F := F) h, mrks_append, hx]
 simp [mrks, List.append_assoc]
theorem mrks_gat : ∀ {xs : List α} {k : Int} {i : Nat}, i < xs.length → gat F (mrks mk c k xs) i = mk (k + cnts c (xs.take i)) (gat F xs i)
 | [], _, _, h => by simp at h
 | x :: r, k, 0, _ => by simp [mrks, gat, cnts]
 | x :: r, k, i + 1, h => by
  have := mrks_gat (xs := r) (k := k + c x) (i := i) (by simpa using h)
  simp only [mrks, List.take_succ_cons, cnts]
  have e : gat F (mk k x :: mrks mk c (k + c x) r) (i + 1) = gat F (mrks mk c (k + c x) r) i := by simp [gat]
  have e2 : gat F (x :: r) (i + 1) = gat F r i := by simp [gat]
  rw [e, e2, this]
  congr 1
  omega
end
theorem gat_dat {α β : Type} {F : Enc α} {f : α → β} {xs ys : List α} {i : Nat} (h : xs.map f = ys.map f) (hi : i < xs.length) : f (gat F xs i) = f (gat F ys i) := by
 have hl := congrArg List.length h
 simp only [List.length_map] at hl
 have h1 := congrArg (fun l => l[i]?) h
 simp only [List.getElem?_map, gat_get (F := F) hi, gat_get (F := F) (show i < ys.length by omega), Option.map_some] at h1
 exact Option.some.inj h1
theorem map_take_succ {α β : Type} {F : Enc α} {f : α → β} {xs : List α} {i : Nat} (h : i < xs.length) : (xs.take (i + 1)).map f = (xs.take i).map f ++ [f (gat F xs i)] := by
 rw [List.take_add_one, gat_get (F := F) h, List.map_append]; rfl
section
variable {α : Type} {F : Enc α} {P : Program} {w0 w : World} {T : List Nat} {n : Nat} {ol : List Oper} {o : Oper} {rest : List Oper} {f : Fr} {d : Nat} {K : Fr → World → Prop}
theorem firstCells_any {sz k k' c c' : Nat} {A : Option Addr} {us : Array Value} (h : (Builtin.firstCells sz k (.slice A k c)).run P w = .ok us w) : (Builtin.firstCells sz k (.slice A k' c')).run P w = .ok us w := by
 cases A <;> exact h
theorem WL.copyF {L1 R : Hp} {xs ys : List α} {A A' B : Option Addr} {m c lo q k' c' cb : Nat} {e t t2 : TypeId} {i : TypeInfo} {x y : Operand} (hst : St w0 T (L1 ++ R) w) (hown : OwnF F e (.slice A m c) xs L1) (hs : SlF F w A' k' ys) (ht : P.underlying t = some (.slice e)) (ht2 : P.underlying t2 = some (.slice e)) (hi : P.info? e = some i) (hs1 : Nat.beq i.size F.sz = true)
  (ho : o.op = .call { callee := .builtin .copy, args := #[x, y], argTypes := #[t, t2] }) (hw : want ol o f = some true) (hd : o.dst = some d) (hn : Nat.blt d n = true) (hx : ev f x = some (.slice B q cb)) (hy : ev f y = some (.slice A' k' c')) (hB : B = cutA A lo F.sz c ∨ (lo = 0 ∧ B = A)) (hlo : lo + q ≤ m) (h0q : 0 < q)
  (k : ∀ L1' w', St w0 T (L1' ++ R) w' → OwnF F e (.slice A m c) (xs.take lo ++ ys.take (min k' q) ++ xs.drop (lo + min k' q)) L1' → WL P n ol rest K ((d, .int .i64 (min k' q : Nat)) :: f) w') : WL P n ol (o :: rest) K f w := by
 have hs1' := Nat.eq_of_beq_eq_true hs1
 have hl := hown.len_
 have hk := hs.len
 have hyl : (ys.take (min k' q)).length = min k' q := by rw [List.length_take]; omega
 obtain ⟨g, pre, cl, a, b, rfl, rfl, hfz, hle, hupd⟩ := hown.updR (i := lo) (ys := ys.take (min k' q)) (by omega) (by rw [hyl]; omega)
 have hc := hown.cap
 have hrl : (rows F (ys.take (min k' q))).length = min k' q * F.sz := by rw [rows_len, hyl]
 rw [hyl] at hle hupd
 have e0 : (lo + min k' q) * F.sz = lo * F.sz + min k' q * F.sz := Nat.add_mul _ _ _
 have hpl : (pre ++ cl).length = pre.length + cl.length := List.length_append
 obtain ⟨w', hr, hs'⟩ := hst.stored (P := P) 0 (off := pre.length + lo * F.sz) (vs := rows F (ys.take (min k' q))) rfl rows_one (by rw [hrl]; omega) (by rcases hfz with h | h <;> omega)
 rw [splice_pre] at hs'
 have hcut := hs.cutH (hi := min k' q) (c := k') ⟨by omega, by omega, by omega⟩
 have hcut' : SlF F w A' (min k' q) (ys.take (min k' q)) := by
  by_cases h0 : min k' q = 0
  ·rw [h0] at hcut ⊢
   rw [List.take_zero]
   exact SlF.nil _ _
  ·have e3 : cutA A' 0 F.sz k' = A' := by
    unfold cutA
    rw [if_neg (by omega)]
    cases A' with
    | none => rfl
    | some q => simp [Addr.add]
   rwa [e3] at hcut
 have hsrc := (SlF.src (P := P) (c := c') hcut' ht2).cells
 rw [hyl] at hsrc
 have e2 : B = some ⟨g, pre.length + lo * F.sz, none⟩ := by
  rcases hB with rfl | ⟨rfl, rfl⟩
  ·unfold cutA
   rw [if_neg (by omega)]
   simp only [Option.map_some, addr_at]
  ·simp
 subst e2
 refine WL.val (w' := w') (v := .int .i64 (min k' q : Nat)) hw hd hn (fun ρ hρ => ?_) (k [(g, .cells (pre ++ (cl.take (lo * F.sz) ++ rows F (ys.take (min k' q)) ++ cl.drop (lo * F.sz + (rows F (ys.take (min k' q))).length))).toArray e (a, b))] w' hs' ?_)
 ·have hmin : Nat.min k' q = min k' q := rfl
  simp [execOp, ho, hρ _ _ hx, hρ _ _ hy, resolve, invoke, builtin, Builtin.copy_, run_underlying ht, Builtin.lenOf, sizeOf, typeInfo, hi, hs1', hmin, firstCells_any hsrc, hr, goInt]
 ·have := hupd _ (by rw [e0])
  rw [hrl]
  exact this
end
section
variable {P : Program} {w : World} {o : Oper} {f : Fr} {t t' : TypeId} {x y : Operand} {k : IntKind}
theorem wrapU {a : Int} (n : Nat) (h : a = (n : Int)) (hn : n < 18446744073709551616) : IntKind.u64.wrap a = (n : Int) := by
 subst h
 simp [IntKind.wrap, IntKind.bits, IntKind.signed]
 omega
theorem Run.shrU (n m : Nat) {b : Int} (ho : o.op = .binOp .shr t x y t') (hx : ev f x = some (.int .u64 (n : Int))) (hy : ev f y = some (.int k b)) (h0 : 0 ≤ b) (h1 : b ≤ 63) (hm : n / 2 ^ b.toNat = m) : Run P o f w (.value (.int .u64 (m : Int))) w := fun ρ hρ => by
 have e : Min.min b.toNat 64 = b.toNat := by omega
 have h2 : ¬ b < 0 := by omega
 have e4 : (n : Int) / 2 ^ b.toNat = (m : Int) := by rw [← hm]; simp
 have e3 : (n : Int).fdiv (2 ^ b.toNat) = (m : Int) := by
  rw [Int.fdiv_eq_ediv_of_nonneg _ (by exact Int.le_of_lt (Int.pow_pos (by decide))), e4]
 simp [execOp, ho, hρ _ _ hx, hρ _ _ hy, eqGuard, binOp, Op.shift, IntKind.bits, e, h2, e3, e4]
end
section
variable {w0 w w' : World} {T : List Nat} {R L1 L2 : Hp} {b : Nat} {o o' : Obj}
theorem St.takeP (w : World) (b : Nat) (o : Obj) (L1 : Hp) (hb : w.heap[b]? = some o) (h1 : ∀ p, p ∈ L1 → w.heap[p.1]? = some p.2) (hd : (b :: L1.map (·.1)).Nodup) : St w (b :: L1.map (·.1)) ((b, o) :: (L1 ++ [])) w := by
 have h := St.take w ((b, o) :: L1) (fun p hp => by
  rcases List.mem_cons.1 hp with rfl | hp
  ·exact hb
  ·exact h1 p hp) hd
 rw [List.append_nil]; exact h
theorem St.keepP (h : St w0 T ((b, o) :: (L1 ++ R)) w) : St w0 T ([(b, o)] ++ L1) w := h.drop (List.Sublist.cons_cons _ (List.sublist_append_left _ _))
theorem St.nodupP (h : St w0 T ((b, o) :: (L1 ++ R)) w) : (b :: L1.map (·.1)).Nodup := St.nodupL (L1 := (b, o) :: L1) (R := R) h
theorem St.lendP (h : St w0 T ((b, o) :: (L1 ++ R)) w) (h2 : St w (b :: L1.map (·.1)) ([(b, o')] ++ L2) w') : St w0 T ((b, o') :: (L2 ++ R)) w' := St.lend (A := (b, o) :: L1) (C := R) h h2
theorem St.headP (h : St w0 T ((b, o) :: (L1 ++ R)) w) : w.heap[b]? = some o := (h.own (b, o) List.mem_cons_self).1
theorem St.ownP (h : St w0 T ((b, o) :: (L1 ++ R)) w) : ∀ p, p ∈ L1 → w.heap[p.1]? = some p.2 := fun p hp => (h.own p (List.mem_cons_of_mem _ (List.mem_append_left _ hp))).1
theorem St.sepP {α : Type} {F : Enc α} {A : Option Addr} {n : Nat} {xs : List α} (h : St w0 [] ((b, o) :: (L1 ++ R)) w) (f : SlF F w0 A n xs) : 0 < n → (adr A).block ∉ b :: L1.map (·.1) := St.sep (L1 := (b, o) :: L1) (R := R) h f
end
theorem Bag.put {α : Type} {own : α → Hp → Prop} {xs : List α} {x : α} {La Lb R : Hp} {w0 w : World} {T : List Nat} (hs : St w0 T (La ++ (Lb ++ R)) w) (b : Bag own xs La) (o : own x Lb) : ∃ L, St w0 T (L ++ R) w ∧ Bag own (xs ++ [x]) L := ⟨La ++ Lb, by rw [List.append_assoc]; exact hs, b.snoc o⟩
section
variable {α : Type} {F : Enc α} {own : α → Hp → Prop} {e : TypeId} {xs : List α} {L R : Hp} {A : Option Addr} {n c k : Nat} {w0 w : World} {T : List Nat}
theorem Bag.dropK (b : Bag own xs L) : ∃ L', Bag own (xs.drop k) L' ∧ L'.Sublist L := by
 obtain ⟨La, Lb, rfl, h1, h2⟩ := Bag.split (xs := xs.take k) (ys := xs.drop k) (L := L) (by rwa [List.take_append_drop])
 exact ⟨Lb, h2, List.sublist_append_right _ _⟩
theorem OwnF.spare (h : OwnF F e (.slice A n c) xs L) (hq : n < c) : ∃ (g : Nat) (pre cl : List Value) (lo hi : Nat), A = some ⟨g, pre.length, none⟩ ∧ L = [(g, .cells (pre ++ cl).toArray e (lo, hi))] ∧ (hi ≤ lo ∨ (pre ++ cl).length ≤ lo) ∧ cl.length = c * F.sz ∧
  ∀ cl' : List Value, cl'.length = cl.length → cl'.take (n * F.sz) = cl.take (n * F.sz) → OwnF F e (.slice A n c) xs [(g, .cells (pre ++ cl').toArray e (lo, hi))] := by
 have hl := h.len_
 rcases h.2 with ⟨⟨A', hv⟩, h0', rfl⟩ | ⟨g, cap, o, pre, cl, ⟨lo, hi'⟩, hv, rfl, hn, hc, hcl, ht, hfz, rfl⟩
 ·cases hv; omega
 ·cases hv
  refine ⟨g, pre, cl, lo, hi', rfl, rfl, hfz, hcl, fun cl' h1 h2 => ⟨h.1, .inr ⟨g, c, pre.length, pre, cl', (lo, hi'), rfl, rfl, hn, hc, by rw [h1, hcl], ?_, by rw [List.length_append, h1, ← List.length_append]; exact hfz, rfl⟩⟩⟩
  rw [hl, h2, ← hl, ht]
end
section
variable {P : Program} {ops : Array Oper} {Q : Exit → Act → World → Prop} {md : Region.Mode} {S S1 : World → Prop} {k : Nat}
def wpAnyG (P : Program) (md : Region.Mode) (ops : Array Oper) (Q : Exit → Act → World → Prop) (k : Nat) (S1 S : World → Prop) : Nat → Array Bool → Act → World → Prop
 | 0, listed, a, w => Region.ready md ops listed = [] ∧ Q .normal a w
 | fuel + 1, listed, a, w =>
  (Region.ready md ops listed = [] → Q .normal a w) ∧
  ∀ i ∈ Region.ready md ops listed, (i = k → wpOp P ops Q i (fun a' w' => S w' ∧ wpAnyH P md ops Q S fuel (listed.setIfInBounds i true) a' w') a w) ∧
   (i ≠ k → wpOp P ops Q i (fun a' w' => S1 w' ∧ wpAnyG P md ops Q k S1 S fuel (listed.setIfInBounds i true) a' w') a w)
theorem wpAny_of_gate : ∀ (fuel : Nat) (listed : Array Bool) (a : Act) (w : World), wpAnyG P md ops Q k S1 S fuel listed a w → wpAny P md ops Q fuel listed a w
 | 0, _, _, _, h => h
 | fuel + 1, _, _, _, h => ⟨h.1, fun i hi => by
  by_cases e : i = k
  ·exact wpOp_mono (fun a' w' h' => wpAny_of_held fuel _ a' w' h'.2) ((h.2 i hi).1 e)
  ·exact wpOp_mono (fun a' w' h' => wpAny_of_gate fuel _ a' w' h'.2) ((h.2 i hi).2 e)⟩
theorem wpAnyG_first {i : Nat} {oi ok : Oper} {v : Value} (hi : ops[i]? = some oi) (hok : ops[k]? = some ok) (hdep : ∃ e ∈ ok.after, Region.binds md e = true ∧ e.on = i) (hik : i ≠ k) (hsel : ∀ (j : Nat) (o : Oper) cs b, ops[j]? = some o → o.op ≠ .select cs b)
  (hQ : ∀ c a w, Q (.panic c) (a.put oi.dst v) w → Q (.panic c) a w) :
  ∀ (fuel : Nat) (listed : Array Bool) (a : Act) (w : World),
   (∀ j oj, ops[j]? = some oj → j ≠ i → listed.getD j true = false → (∀ e ∈ oj.after, Region.binds md e = true → e.on ≠ i) → oi.apart ops oj = true) →
   i ∈ Region.ready md ops listed → YieldsIf P ops S1 oi v a → S1 w →
   wpAnyG P md ops Q k S1 S fuel (listed.setIfInBounds i true) (a.put oi.dst v) w → wpAnyG P md ops Q k S1 S (fuel + 1) listed a w := by
 intro fuel
 have hnotk : ∀ (listed : Array Bool), i ∈ Region.ready md ops listed → k ∉ Region.ready md ops listed := by
  intro listed hr hk
  obtain ⟨e, he, hb, hon⟩ := hdep
  obtain ⟨_, o', ho', hall⟩ := mem_ready.1 hk
  rw [hok] at ho'
  cases ho'
  have h1 := hall e he hb
  have h0 := (mem_ready.1 hr).1
  rw [hon] at h1
  rcases Nat.lt_or_ge i listed.size with h' | h'
  ·simp [h'] at h0 h1; rw [h0] at h1; cases h1
  ·simp [Array.getElem?_eq_none h'] at h1
 induction fuel with
 | zero =>
  intro listed a w _ hr hy hS H
  refine ⟨fun h => (by rw [h] at hr; cases hr), fun j hj => ⟨fun e => absurd (e ▸ hj) (hnotk _ hr), fun _ => ?_⟩⟩
  by_cases hji : j = i
  ·subst hji; exact hy.wpOp hi hS ⟨hS, H⟩
  ·have := ready_mono hj hji
   rw [H.1] at this
   cases this
 | succ fuel ih =>
  intro listed a w hfree hr hy hS H
  refine ⟨fun h => (by rw [h] at hr; cases hr), fun j hj => ⟨fun e => absurd (e ▸ hj) (hnotk _ hr), fun hjk0 => ?_⟩⟩
  by_cases hji : j = i
  ·subst hji; exact hy.wpOp hi hS ⟨hS, H⟩
  ·have h1 := (H.2 j (ready_mono hj hji)).2 hjk0
   obtain ⟨hjun, oj, hoj, hall⟩ := mem_ready.1 hj
   have hnot : ∀ e ∈ oj.after, Region.binds md e = true → e.on ≠ i := fun e he hb heq => by
    have h1 := hall e he hb
    have h0 := (mem_ready.1 hr).1
    rw [heq] at h1
    rcases Nat.lt_or_ge i listed.size with h' | h'
    ·simp [h'] at h0 h1; rw [h0] at h1; cases h1
    ·simp [Array.getElem?_eq_none h'] at h1
   have h2 := wpOp_putIf hoj (hfree j oj hoj hji hjun hnot) (fun cs b => hsel i oi cs b hi) (fun cs b => hsel j oj cs b hoj) hQ hy h1
   have hfree' : ∀ q oq, ops[q]? = some oq → q ≠ i → (listed.setIfInBounds j true).getD q true = false →
     (∀ e ∈ oq.after, Region.binds md e = true → e.on ≠ i) → oi.apart ops oq = true := fun q oq hq hqi hun hno => by
    refine hfree q oq hq hqi ?_ hno
    by_cases hjq : j = q
    ·subst hjq; exact hjun
    ·rw [getD_set_ne true hjq] at hun; exact hun
   refine wpOp_mono (fun a' w' h3 => ⟨h3.2.1, ih (listed.setIfInBounds j true) a' w' hfree' (ready_mono hr (Ne.symm hji)) h3.1 h3.2.1 ?_⟩) h2
   rw [Array.setIfInBounds_comm _ _ hji]
   exact h3.2.2
theorem wpAnyG_firstB {i : Nat} {oi : Oper} {v : Value} (hi : ops[i]? = some oi) (hsel : ∀ (j : Nat) (o : Oper) cs b, ops[j]? = some o → o.op ≠ .select cs b)
  (hQ : ∀ c a w, Q (.panic c) (a.put oi.dst v) w → Q (.panic c) a w) (hik : i ≠ k) :
  ∀ (fuel : Nat) (listed : Array Bool) (a : Act) (w : World),
   (∀ j oj, ops[j]? = some oj → j ≠ i → listed.getD j true = false → (∀ e ∈ oj.after, Region.binds md e = true → e.on ≠ i) → oi.apart ops oj = true) →
   i ∈ Region.ready md ops listed → YieldsIf P ops (fun _ => True) oi v a → S1 w →
   wpAnyG P md ops Q k S1 S fuel (listed.setIfInBounds i true) (a.put oi.dst v) w → wpAnyG P md ops Q k S1 S (fuel + 1) listed a w := by
 intro fuel
 induction fuel with
 | zero =>
  intro listed a w _ hr hy hS H
  refine ⟨fun h => (by rw [h] at hr; cases hr), fun j hj => ⟨fun e => ?_, fun _ => ?_⟩⟩
  ·have := ready_mono hj (e ▸ Ne.symm hik)
   rw [H.1] at this
   cases this
  ·by_cases hji : j = i
   ·subst hji; exact hy.wpOp hi trivial ⟨hS, H⟩
   ·have := ready_mono hj hji
    rw [H.1] at this
    cases this
 | succ fuel ih =>
  intro listed a w hfree hr hy hS H
  refine ⟨fun h => (by rw [h] at hr; cases hr), fun j hj => ?_⟩
  by_cases hji : j = i
  ·subst hji
   exact ⟨fun e => absurd e hik, fun _ => hy.wpOp hi trivial ⟨hS, H⟩⟩
  ·have h1 := H.2 j (ready_mono hj hji)
   obtain ⟨hjun, oj, hoj, hall⟩ := mem_ready.1 hj
   have hnot : ∀ e ∈ oj.after, Region.binds md e = true → e.on ≠ i := fun e he hb heq => by
    have h1 := hall e he hb
    have h0 := (mem_ready.1 hr).1
    rw [heq] at h1
    rcases Nat.lt_or_ge i listed.size with h' | h'
    ·simp [h'] at h0 h1; rw [h0] at h1; cases h1
    ·simp [Array.getElem?_eq_none h'] at h1
   have hfree' : ∀ q oq, ops[q]? = some oq → q ≠ i → (listed.setIfInBounds j true).getD q true = false →
     (∀ e ∈ oq.after, Region.binds md e = true → e.on ≠ i) → oi.apart ops oq = true := fun q oq hq hqi hun hno => by
    refine hfree q oq hq hqi ?_ hno
    by_cases hjq : j = q
    ·subst hjq; exact hjun
    ·rw [getD_set_ne true hjq] at hun; exact hun
   refine ⟨fun e => ?_, fun e => ?_⟩
   ·have h2 := wpOp_putIf hoj (hfree j oj hoj hji hjun hnot) (fun cs b => hsel i oi cs b hi) (fun cs b => hsel j oj cs b hoj) hQ hy (h1.1 e)
    refine wpOp_mono (fun a' w' h3 => ⟨h3.2.1, wpAnyH_first hi hsel hQ fuel (listed.setIfInBounds j true) a' w' hfree' (ready_mono hr (Ne.symm hji)) ?_ h3.2.1 ?_⟩) h2
    ·exact h3.1.imp (fun q => ⟨q.1, fun w _ => q.2 w trivial⟩) id
    ·rw [Array.setIfInBounds_comm _ _ hji]
     exact h3.2.2
   ·have h2 := wpOp_putIf hoj (hfree j oj hoj hji hjun hnot) (fun cs b => hsel i oi cs b hi) (fun cs b => hsel j oj cs b hoj) hQ hy (h1.2 e)
    refine wpOp_mono (fun a' w' h3 => ⟨h3.2.1, ih (listed.setIfInBounds j true) a' w' hfree' (ready_mono hr (Ne.symm hji)) h3.1 h3.2.1 ?_⟩) h2
    rw [Array.setIfInBounds_comm _ _ hji]
    exact h3.2.2
end
def WG (P : Program) (n : Nat) (ol : List Oper) (k : Nat) (S1 S : World → Prop) (fuel : Nat) (listed : List Bool) (K : Fr → World → Prop) (f : Fr) (w : World) : Prop :=
 ∀ (Q : Exit → Act → World → Prop) (a : Act), (∀ c a w, ¬ Q (.panic c) a w) → Good a n f → (∀ a' f' w', Good a' n f' → K f' w' → Q .normal a' w') → wpAnyG P .any ol.toArray Q k S1 S fuel listed.toArray a w
def waits (ol : List Oper) (k i : Nat) : Bool := match nthO ol k with
 | some o => o.after.toList.any (fun e => Region.binds .any e && Nat.beq e.on i) && !Nat.beq i k
 | none => false
section
variable {P : Program} {n : Nat} {ol : List Oper} {o : Oper} {K : Fr → World → Prop} {f : Fr} {w : World} {d : Nat} {v : Value} {S S1 : World → Prop} {fuel k : Nat} {listed : List Bool}
theorem WC.regionG {id : Nat} {l : List Oper} {Q : Kont} (k : Nat) (S S1 S2 : World → Prop) (hm : P.follows .mixedOrders = true)
  (_h0 : S { heap := w.heap, tape := w.tape, drawn := w.drawn + 1, os := w.os, output := w.output }) (_h1 : S1 { heap := w.heap, tape := w.tape, drawn := w.drawn + 1, os := w.os, output := w.output })
  (hS1 : S2 { heap := w.heap, tape := w.tape, drawn := w.drawn + 1, os := w.os, output := w.output })
  (h : ∀ w', S2 w' → WG P n l k S1 S l.length (List.replicate l.length false) (fun f w => Q .normal f w) f w') : WC P n (.region id l.toArray true) Q f w := fun a ha => by
 refine wp_region_noPanic (wp_region_any hm (wpAny_of_gate (k := k) (S1 := S1) (S := S) _ _ _ _ ?_))
 have e : (Array.replicate l.toArray.size false) = (List.replicate l.length false).toArray := by simp
 rw [e]
 have e2 : l.toArray.size = l.length := by simp
 rw [e2]
 exact h _ hS1 (NoPanic (qa n Q)) a (fun c a w hh => hh) ha (fun a' f' w' hg hk => ⟨f', hg, hk⟩)
theorem waits_dep {i : Nat} (h : waits ol k i = true) : ∃ ok, ol.toArray[k]? = some ok ∧ (∃ e ∈ ok.after, Region.binds .any e = true ∧ e.on = i) ∧ i ≠ k := by
 unfold waits at h
 split at h
 ·rename_i ok ho
  simp only [Bool.and_eq_true, List.any_eq_true, Bool.not_eq_true'] at h
  obtain ⟨⟨e, he, h1, h2⟩, h3⟩ := h
  refine ⟨ok, by rw [List.getElem?_toArray, ← nthO_eq]; exact ho, ⟨e, Array.mem_toList_iff.1 he, h1, Nat.eq_of_beq_eq_true h2⟩, ?_⟩
  rintro rfl
  rw [Nat.beq_refl] at h3; cases h3
 ·cases h
theorem WG.take (i : Nat) (hi : nthO ol i = some o) (hb : canTake ol listed i = true) (hkw : waits ol k i = true) (hw : want ol o f = some true) (hd : o.dst = some d) (hn : Nat.blt d n = true) (hS : S1 w) (hy : ∀ w, S1 w → Run P o f w (.value v) w)
  (kk : WG P n ol k S1 S fuel (setB listed i) K ((d, v) :: f) w) : WG P n ol k S1 S (fuel + 1) listed K f w := fun Q a hp ha hk => by
 simp only [canTake, Bool.and_eq_true] at hb
 have hi' : ol.toArray[i]? = some o := by rw [List.getElem?_toArray, ← nthO_eq]; exact hi
 obtain ⟨ok, h1, h2, h3⟩ := waits_dep hkw
 refine wpAnyG_first (v := v) hi' h1 h2 h3 (Region.noSelect_spec hb.1.1) (fun c a w hh => absurd hh (hp _ _ _)) fuel _ _ _ (Region.free_spec hi' hb.1.2) (by simpa using hb.2) (.inl ⟨want_eq ha hw, fun w hSw => hy w hSw a.eval fun x u hx => ha.ev hx⟩) hS ?_
 have := kk Q _ hp (ha.put hn v) hk
 rw [setB_eq] at this
 rw [hd]
 simpa using this
theorem WG.takeSkip (i : Nat) (hi : nthO ol i = some o) (hb : canTake ol listed i = true) (hkw : waits ol k i = true) (hw : want ol o f = some false) (hd : o.dst = some d) (hn : Nat.blt d n = true) (hS : S1 w)
  (kk : WG P n ol k S1 S fuel (setB listed i) K ((d, undef) :: f) w) : WG P n ol k S1 S (fuel + 1) listed K f w := fun Q a hp ha hk => by
 simp only [canTake, Bool.and_eq_true] at hb
 have hi' : ol.toArray[i]? = some o := by rw [List.getElem?_toArray, ← nthO_eq]; exact hi
 obtain ⟨ok, h1, h2, h3⟩ := waits_dep hkw
 refine wpAnyG_first (v := undef) hi' h1 h2 h3 (Region.noSelect_spec hb.1.1) (fun c a w hh => absurd hh (hp _ _ _)) fuel _ _ _ (Region.free_spec hi' hb.1.2) (by simpa using hb.2) (.inr ⟨want_eq ha hw, rfl⟩) hS ?_
 have := kk Q _ hp (ha.put hn undef) hk
 rw [setB_eq] at this
 rw [hd]
 simpa using this
theorem WG.takeB (i : Nat) (hi : nthO ol i = some o) (hb : canTake ol listed i = true) (hik : Nat.beq i k = false) (hw : want ol o f = some true) (hd : o.dst = some d) (hn : Nat.blt d n = true) (hS : S1 w) (hy : ∀ w, Run P o f w (.value v) w)
  (kk : WG P n ol k S1 S fuel (setB listed i) K ((d, v) :: f) w) : WG P n ol k S1 S (fuel + 1) listed K f w := fun Q a hp ha hk => by
 simp only [canTake, Bool.and_eq_true] at hb
 have hi' : ol.toArray[i]? = some o := by rw [List.getElem?_toArray, ← nthO_eq]; exact hi
 refine wpAnyG_firstB (v := v) hi' (Region.noSelect_spec hb.1.1) (fun c a w hh => absurd hh (hp _ _ _)) (by rintro rfl; rw [Nat.beq_refl] at hik; cases hik) fuel _ _ _ (Region.free_spec hi' hb.1.2) (by simpa using hb.2) (.inl ⟨want_eq ha hw, fun w _ => hy w a.eval fun x u hx => ha.ev hx⟩) hS ?_
 have := kk Q _ hp (ha.put hn v) hk
 rw [setB_eq] at this
 rw [hd]
 simpa using this
def WGs (P : Program) (n : Nat) (ol : List Oper) (k : Nat) (S1 S : World → Prop) (fuel : Nat) (listed : List Bool) (K : Fr → World → Prop) (f : Fr) (w : World) (rs : List Nat) : Prop :=
 ∀ i, i ∈ rs → ∃ o, nthO ol i = some o ∧ ((i = k ∧ WL P n ol [o] (fun f' w' => S w' ∧ WH P n ol S fuel (setB listed i) K f' w') f w) ∨ (i ≠ k ∧ WL P n ol [o] (fun f' w' => S1 w' ∧ WG P n ol k S1 S fuel (setB listed i) K f' w') f w))
theorem WGs.nil : WGs P n ol k S1 S fuel listed K f w [] := fun _ h => by cases h
theorem WGs.cons {i : Nat} {rs : List Nat} (hi : nthO ol i = some o) (hne : Nat.beq i k = false) (h : WL P n ol [o] (fun f' w' => S1 w' ∧ WG P n ol k S1 S fuel (setB listed i) K f' w') f w) (hr : WGs P n ol k S1 S fuel listed K f w rs) : WGs P n ol k S1 S fuel listed K f w (i :: rs) := fun j hj => by
 rcases List.mem_cons.1 hj with rfl | hj
 ·exact ⟨o, hi, .inr ⟨(by rintro rfl; rw [Nat.beq_refl] at hne; cases hne), h⟩⟩
 ·exact hr j hj
theorem WGs.consK {rs : List Nat} (hi : nthO ol k = some o) (h : WL P n ol [o] (fun f' w' => S w' ∧ WH P n ol S fuel (setB listed k) K f' w') f w) (hr : WGs P n ol k S1 S fuel listed K f w rs) : WGs P n ol k S1 S fuel listed K f w (k :: rs) := fun j hj => by
 rcases List.mem_cons.1 hj with rfl | hj
 ·exact ⟨o, hi, .inl ⟨rfl, h⟩⟩
 ·exact hr j hj
theorem wpOp_one {K1 : Act → World → Prop} {Q : Exit → Act → World → Prop} {a : Act} {i : Nat} (hi' : ol.toArray[i]? = some o) (h1 : wpList P ol.toArray (Exit.then K1 Q) [o] a w) : wpOp P ol.toArray Q i K1 a w := by
 unfold wpOp
 rw [hi']
 show if Region.wanted o (yielded ol.toArray a.tmps) = true then _ else _
 unfold wpList at h1
 split
 ·rename_i hwd
  rw [if_pos hwd] at h1
  exact wp_then h1
 ·rename_i hwd
  rw [if_neg hwd] at h1
  exact h1
theorem WG.all (rs : List Nat) (hr : Region.ready .any ol.toArray listed.toArray = rs) (hne : rs.isEmpty = false) (h : WGs P n ol k S1 S fuel listed K f w rs) : WG P n ol k S1 S (fuel + 1) listed K f w := fun Q a hp ha hk => by
 refine ⟨fun h0 => ?_, fun i hi => ?_⟩
 ·rw [hr] at h0; subst h0; cases hne
 ·rw [hr] at hi
  obtain ⟨o, ho, hw⟩ := h i hi
  have hi' : ol.toArray[i]? = some o := by rw [List.getElem?_toArray, ← nthO_eq]; exact ho
  rcases hw with ⟨e, hw⟩ | ⟨e, hw⟩
  ·refine ⟨fun _ => ?_, fun e2 => absurd e e2⟩
   refine wpOp_one hi' (hw (Exit.then (fun a' w' => S w' ∧ wpAnyH P .any ol.toArray Q S fuel (listed.toArray.setIfInBounds i true) a' w') Q) a ha (fun a' f' w' hg hh => ⟨hh.1, by
    have := hh.2 Q a' hp hg hk
    rw [setB_eq] at this
    simpa using this⟩))
  ·refine ⟨fun e2 => absurd e2 e, fun _ => ?_⟩
   refine wpOp_one hi' (hw (Exit.then (fun a' w' => S1 w' ∧ wpAnyG P .any ol.toArray Q k S1 S fuel (listed.toArray.setIfInBounds i true) a' w') Q) a ha (fun a' f' w' hg hh => ⟨hh.1, by
    have := hh.2 Q a' hp hg hk
    rw [setB_eq] at this
    simpa using this⟩))
theorem WG.split {g : Bool} (s : Nat) (_hs : lk f s = some (.bool g)) (hT : g = true → WG P n ol k S1 S fuel listed K f w) (hF : g = false → WG P n ol k S1 S fuel listed K f w) : WG P n ol k S1 S fuel listed K f w := by
 cases h : g
 ·exact hF h
 ·exact hT h
end
def Closed (ops : Array Oper) (listed : Array Bool) : Prop := ∀ m o, ops[m]? = some o → listed.getD m false = true → ∀ e ∈ o.after, Region.binds .any e = true → listed.getD e.on false = true
def needsB (ol : List Oper) : Nat → Nat → Nat → Bool
 | 0, _, _ => false
 | fuel + 1, k, i => match nthO ol k with
  | some o => o.after.toList.any fun e => Region.binds .any e && (Nat.beq e.on i || needsB ol fuel e.on i)
  | none => false
def closedB (ol : List Oper) (listed : List Bool) : Bool := (List.range ol.length).all fun m => !(listed.toArray.getD m false) || match nthO ol m with
 | some o => o.after.toList.all fun e => !Region.binds .any e || listed.toArray.getD e.on false
 | none => true
def takesT (ol : List Oper) (listed : List Bool) (k i : Nat) : Bool := canTake ol listed i && (needsB ol ol.length k i && (closedB ol listed && !Nat.beq i k))
section
variable {P : Program} {Q : Exit → Act → World → Prop} {S S1 : World → Prop} {k : Nat} {ol : List Oper}
theorem nth_arr {m : Nat} {o : Oper} : ol.toArray[m]? = some o ↔ nthO ol m = some o := by rw [List.getElem?_toArray, ← nthO_eq]
theorem closed_of {listed : List Bool} (h : closedB ol listed = true) : Closed ol.toArray listed.toArray := fun m o ho hl e he hb => by
 unfold closedB at h
 rw [List.all_eq_true] at h
 have hm : m < ol.length := by
  have := (Array.getElem?_eq_some_iff.1 ho).1
  simpa using this
 have h1 := h m (List.mem_range.2 hm)
 rw [hl, nth_arr.1 ho] at h1
 simp only [Bool.not_true, Bool.false_or, List.all_eq_true] at h1
 have h2 := h1 e (Array.mem_toList_iff.2 he)
 rw [hb] at h2
 simpa using h2
theorem needs_listed {listed : Array Bool} (hc : Closed ol.toArray listed) {i : Nat} : ∀ (fuel x : Nat), (∀ o, nthO ol x = some o → ∀ e ∈ o.after, Region.binds .any e = true → listed.getD e.on false = true) → needsB ol fuel x i = true → listed.getD i false = true
 | 0, _, _, h => by cases h
 | fuel + 1, x, hx, h => by
  unfold needsB at h
  split at h
  ·rename_i o ho
   rw [List.any_eq_true] at h
   obtain ⟨e, he, h1⟩ := h
   rw [Bool.and_eq_true, Bool.or_eq_true] at h1
   have h2 := hx o ho e (Array.mem_toList_iff.1 he) h1.1
   rcases h1.2 with h3 | h3
   ·rw [Nat.eq_of_beq_eq_true h3] at h2; exact h2
   ·exact needs_listed hc fuel e.on (fun o' ho' => hc e.on o' (nth_arr.2 ho') h2) h3
  ·cases h
theorem Closed.set {ops : Array Oper} {listed : Array Bool} (hc : Closed ops listed) {j : Nat} (hj : j ∈ Region.ready .any ops listed) : Closed ops (listed.setIfInBounds j true) := fun m o ho hl e he hb => by
 obtain ⟨_, oj, hoj, hall⟩ := mem_ready.1 hj
 by_cases hm : m = j
 ·subst hm
  rw [hoj] at ho; cases ho
  exact getD_set_true (hall e he hb)
 ·have h1 : listed.getD m false = true := by
   rwa [getD_set_ne false (Ne.symm hm)] at hl
  exact getD_set_true (hc m o ho h1 e he hb)
theorem wpAnyG_firstT {i : Nat} {oi : Oper} {v : Value} (hi : ol.toArray[i]? = some oi) (hneed : needsB ol ol.length k i = true) (hik : i ≠ k) (hsel : ∀ (j : Nat) (o : Oper) cs b, ol.toArray[j]? = some o → o.op ≠ .select cs b)
  (hQ : ∀ c a w, Q (.panic c) (a.put oi.dst v) w → Q (.panic c) a w) :
  ∀ (fuel : Nat) (listed : Array Bool) (a : Act) (w : World), Closed ol.toArray listed →
   (∀ j oj, ol.toArray[j]? = some oj → j ≠ i → listed.getD j true = false → (∀ e ∈ oj.after, Region.binds .any e = true → e.on ≠ i) → oi.apart ol.toArray oj = true) →
   i ∈ Region.ready .any ol.toArray listed → YieldsIf P ol.toArray S1 oi v a → S1 w →
   wpAnyG P .any ol.toArray Q k S1 S fuel (listed.setIfInBounds i true) (a.put oi.dst v) w → wpAnyG P .any ol.toArray Q k S1 S (fuel + 1) listed a w := by
 intro fuel
 have hnotk : ∀ (listed : Array Bool), Closed ol.toArray listed → i ∈ Region.ready .any ol.toArray listed → k ∉ Region.ready .any ol.toArray listed := by
  intro listed hc hr hk
  obtain ⟨_, o', ho', hall⟩ := mem_ready.1 hk
  have h1 := needs_listed hc (i := i) ol.length k (fun o ho e he hb => by
   rw [nth_arr.2 ho] at ho'; cases ho'
   exact hall e he hb) hneed
  have h0 := (mem_ready.1 hr).1
  rcases Nat.lt_or_ge i listed.size with h' | h'
  ·simp [h'] at h0 h1; rw [h0] at h1; cases h1
  ·simp [Array.getElem?_eq_none h'] at h1
 induction fuel with
 | zero =>
  intro listed a w hcl _ hr hy hS H
  refine ⟨fun h => (by rw [h] at hr; cases hr), fun j hj => ⟨fun e => absurd (e ▸ hj) (hnotk _ hcl hr), fun _ => ?_⟩⟩
  by_cases hji : j = i
  ·subst hji; exact hy.wpOp hi hS ⟨hS, H⟩
  ·have := ready_mono hj hji
   rw [H.1] at this
   cases this
 | succ fuel ih =>
  intro listed a w hcl hfree hr hy hS H
  refine ⟨fun h => (by rw [h] at hr; cases hr), fun j hj => ⟨fun e => absurd (e ▸ hj) (hnotk _ hcl hr), fun hjk0 => ?_⟩⟩
  by_cases hji : j = i
  ·subst hji; exact hy.wpOp hi hS ⟨hS, H⟩
  ·have h1 := (H.2 j (ready_mono hj hji)).2 hjk0
   obtain ⟨hjun, oj, hoj, hall⟩ := mem_ready.1 hj
   have hnot : ∀ e ∈ oj.after, Region.binds .any e = true → e.on ≠ i := fun e he hb heq => by
    have h1 := hall e he hb
    have h0 := (mem_ready.1 hr).1
    rw [heq] at h1
    rcases Nat.lt_or_ge i listed.size with h' | h'
    ·simp [h'] at h0 h1; rw [h0] at h1; cases h1
    ·simp [Array.getElem?_eq_none h'] at h1
   have h2 := wpOp_putIf hoj (hfree j oj hoj hji hjun hnot) (fun cs b => hsel i oi cs b hi) (fun cs b => hsel j oj cs b hoj) hQ hy h1
   have hfree' : ∀ q oq, ol.toArray[q]? = some oq → q ≠ i → (listed.setIfInBounds j true).getD q true = false →
     (∀ e ∈ oq.after, Region.binds .any e = true → e.on ≠ i) → oi.apart ol.toArray oq = true := fun q oq hq hqi hun hno => by
    refine hfree q oq hq hqi ?_ hno
    by_cases hjq : j = q
    ·subst hjq; exact hjun
    ·rw [getD_set_ne true hjq] at hun; exact hun
   refine wpOp_mono (fun a' w' h3 => ⟨h3.2.1, ih (listed.setIfInBounds j true) a' w' (hcl.set hj) hfree' (ready_mono hr (Ne.symm hji)) h3.1 h3.2.1 ?_⟩) h2
   rw [Array.setIfInBounds_comm _ _ hji]
   exact h3.2.2
end
section
variable {P : Program} {n : Nat} {ol : List Oper} {o : Oper} {K : Fr → World → Prop} {f : Fr} {w : World} {d : Nat} {v : Value} {S S1 : World → Prop} {fuel k : Nat} {listed : List Bool}
theorem WG.tk (i : Nat) (hi : nthO ol i = some o) (hb : takesT ol listed k i = true) (hw : want ol o f = some true) (hd : o.dst = some d) (hn : Nat.blt d n = true) (hS : S1 w) (hy : ∀ w, S1 w → Run P o f w (.value v) w)
  (kk : WG P n ol k S1 S fuel (setB listed i) K ((d, v) :: f) w) : WG P n ol k S1 S (fuel + 1) listed K f w := fun Q a hp ha hk => by
 simp only [takesT, canTake, Bool.and_eq_true] at hb
 have hi' : ol.toArray[i]? = some o := nth_arr.2 hi
 refine wpAnyG_firstT (v := v) hi' hb.2.1 (by rintro rfl; have h9 := hb.2.2.2; rw [Nat.beq_refl] at h9; cases h9) (Region.noSelect_spec hb.1.1.1) (fun c a w hh => absurd hh (hp _ _ _)) fuel _ _ _ (closed_of hb.2.2.1) (Region.free_spec hi' hb.1.1.2) (by simpa using hb.1.2) (.inl ⟨want_eq ha hw, fun w hSw => hy w hSw a.eval fun x u hx => ha.ev hx⟩) hS ?_
 have := kk Q _ hp (ha.put hn v) hk
 rw [setB_eq] at this
 rw [hd]
 simpa using this
end
class TbOk (P : Program) (tb : outParam TT) : Prop where
 ok : tb.Ok P
class Mx (P : Program) : Prop where
 ok : P.follows .mixedOrders = true
section
variable {P : Program} {tb : TT} {w0 w : World} {T : List Nat} {L : Hp} {n : Nat} {ol : List Oper} {act : List (Nat × Bool)} {K : Fr → World → Prop} {KQ : Fr → Prop} {C : World → Prop}
theorem WL.r [t : TbOk P tb] (m : Nat) (hst : St w0 T L w) (h : List Nat) {l l' : List Oper} {f f' : Fr} {S : Prop} (hr : runs tb n ol L [] m l f h True = some (l', f', S)) (k : WL P n ol l' K f' w) (hS : S := by repeat (first | exact trivial | refine ⟨by first | exact rfl | omega | exact u8_in _ | (constructor <;> omega), ?_⟩)) : WL P n ol l K f w := WL.run t.ok m hst h hr hS k
theorem WQ.r [t : TbOk P tb] (m : Nat) (h : List Nat) {l l' : List Oper} {f f' : Fr} {S : Prop} (hr : runs tb n ol L [] m l f h True = some (l', f', S)) (k : WQ P n ol l' (fun w' => St w0 T L w') KQ f') (hS : S := by repeat (first | exact trivial | refine ⟨by first | exact rfl | omega | exact u8_in _ | (constructor <;> omega), ?_⟩)) : WQ P n ol l (fun w' => St w0 T L w') KQ f := WQ.run t.ok m h hr hS k
theorem WC.r1 [t : TbOk P tb] {id : Nat} {l : List Oper} {y : Code} {Q : Kont} {f f' : Fr} {S : Prop} (hst : St w0 T L w) (h : List Nat) (hr : runs tb n l L [] l.length l f h True = some ([], f', S)) (k : WC P n y Q f' w) (hS : S := by repeat (first | exact trivial | refine ⟨by first | exact rfl | omega | exact u8_in _ | (constructor <;> omega), ?_⟩)) : WC P n (.seq (.region id l.toArray false) y) Q f w := WC.rr t.ok hst h hr hS k
theorem WC.q1 [t : TbOk P tb] [m : Mx P] {id : Nat} {l : List Oper} {y : Code} {Q : Kont} {f f' : Fr} {S : Prop} (hst : St w0 T L w) (h : List Nat) (hr : runs tb n l L [] l.length l f h True = some ([], f', S)) (k : ∀ w', St w0 T L w' → WC P n y Q f' w') (hl : Region.lexB .any l.toArray = true := by kernel_rfl) (hS : S := by repeat (first | exact trivial | refine ⟨by first | exact rfl | omega | exact u8_in _ | (constructor <;> omega), ?_⟩)) : WC P n (.seq (.region id l.toArray true) y) Q f w := WC.rq t.ok hst m.ok hl h hr hS k
theorem WC.sq1 [m : Mx P] {id : Nat} {l : List Oper} {y : Code} {Q : Kont} {f : Fr} (hst : St w0 T L w) (h : WQ P n l l (fun w' => St w0 T L w') (fun f' => ∀ w', St w0 T L w' → WC P n y Q f' w') f) (hl : Region.lexB .any l.toArray = true := by kernel_rfl) : WC P n (.seq (.region id l.toArray true) y) Q f w := WC.sq hst m.ok hl h
end
def hruns (tb : TT) (n : Nat) (ol : List Oper) (L : Hp) (act : List (Nat × Bool)) : List Nat → Fr → List Nat → Prop → Option (Fr × Prop)
 | [], f, _, S => some (f, S)
 | i :: is, f, h, S => match nthO ol i with
  | some o => (match o.dst with
   | some d => bif wantA ol act o f && Nat.blt d n && frB act f d then sv tb L o.op f h S fun v h' S' => hruns tb n ol L act is ((d, v) :: f) h' S' else none
   | none => none)
  | none => none
def setBs : List Bool → List Nat → List Bool
 | l, [] => l
 | l, i :: r => setBs (setB l i) r
def fuelB : Nat → List Nat → Option Nat
 | m, [] => some m
 | m + 1, _ :: r => fuelB m r
 | 0, _ :: _ => none
def looks (ol : List Oper) (i : Nat) : Bool := match nthO ol i with
 | some o => (match o.op with
  | .load _ _ => true
  | _ => false)
 | none => true
def takesH (ol : List Oper) : List Bool → List Nat → Bool
 | _, [] => true
 | l, i :: r => canTake ol l i && takesH ol (setB l i) r
def takesG (ol : List Oper) (k : Nat) : List Bool → List Nat → Bool
 | _, [] => true
 | l, i :: r => (takesT ol l k i || (canTake ol l i && (!Nat.beq i k && !looks ol i))) && takesG ol k (setB l i) r
theorem sv_look {β : Type} {tb : TT} {L : Hp} {op : Op} {f : Fr} {h : List Nat} {S : Prop} {k : Value → List Nat → Prop → Option β} (hn : ∀ t x, op ≠ .load t x) : sv tb L op f h S k = sv tb [] op f h S k := by
 cases op <;> first | rfl | exact absurd rfl (hn _ _)
theorem looks_no {ol : List Oper} {i : Nat} {o : Oper} (hi : nthO ol i = some o) (h : looks ol i = false) (t : TypeId) (x : Operand) : o.op ≠ .load t x := fun e => by
 unfold looks at h
 rw [hi] at h
 simp only [e] at h
 cases h
section
variable {P : Program} {tb : TT} {w0 w : World} {T : List Nat} {L : Hp} {n : Nat} {ol : List Oper} {act : List (Nat × Bool)} {K : Fr → World → Prop} {S0 : World → Prop} {k : Nat}
theorem hruns_ok (htb : tb.Ok P) : ∀ {is : List Nat} {listed : List Bool} {F fuel : Nat} {f f' : Fr} {h : List Nat} {S S' : Prop}, Acts ol act f → hruns tb n ol L act is f h S = some (f', S') → fuelB F is = some fuel → S' →
  S ∧ (takesH ol listed is = true → ∀ w, St w0 T L w → WH P n ol (fun w' => St w0 T L w') fuel (setBs listed is) K f' w → WH P n ol (fun w' => St w0 T L w') F listed K f w)
   ∧ (takesG ol k listed is = true → ∀ w, St w0 T L w → WG P n ol k (fun w' => St w0 T L w') S0 fuel (setBs listed is) K f' w → WG P n ol k (fun w' => St w0 T L w') S0 F listed K f w)
 | [], listed, F, fuel, f, f', h, S, S', ha, hr, hf, hS => by
  simp only [hruns, Option.some.injEq, Prod.mk.injEq] at hr
  obtain ⟨rfl, rfl⟩ := hr
  have : F = fuel := by cases F <;> simpa [fuelB] using hf
  subst this
  exact ⟨hS, fun _ _ _ => id, fun _ _ _ => id⟩
 | i :: is, listed, 0, fuel, f, f', h, S, S', ha, hr, hf, hS => by cases hf
 | i :: is, listed, F + 1, fuel, f, f', h, S, S', ha, hr, hf, hS => by
  unfold hruns at hr
  split at hr
  ·rename_i o hi
   split at hr
   ·rename_i d hd
    cases hc : (wantA ol act o f && Nat.blt d n && frB act f d) with
    | false => rw [hc] at hr; cases hr
    | true =>
     rw [hc] at hr
     dsimp only [cond_true] at hr
     simp only [Bool.and_eq_true] at hc
     have hw := wantA_ok ha hc.1.1
     obtain ⟨v, h', S1, hk, hv⟩ := sv_ok htb hr
     obtain ⟨h1, h2, h3⟩ := hruns_ok (listed := setB listed i) htb (frB_ok ha hc.2) hk hf hS
     obtain ⟨h5, h6⟩ := hv h1
     have hy : ∀ w, St w0 T L w → Run P o f w (.value v) w := fun w hst => h6 w (fun p hp => (hst.own p hp).1) o rfl
     refine ⟨h5, fun ht w hst kk => ?_, fun ht w hst kk => ?_⟩
     ·simp only [takesH, Bool.and_eq_true] at ht
      exact WH.take i hi ht.1 hw hd hc.1.2 hst hy (h2 ht.2 w hst kk)
     ·simp only [takesG, Bool.and_eq_true, Bool.or_eq_true, Bool.not_eq_true'] at ht
      rcases ht.1 with ht1 | ⟨ht1, ht2, ht3⟩
      ·exact WG.tk i hi ht1 hw hd hc.1.2 hst hy (h3 ht.2 w hst kk)
      ·rw [sv_look (looks_no hi ht3)] at hr
       obtain ⟨v', h'', S2, hk', hv'⟩ := sv_ok htb hr
       obtain ⟨g1, g2, g3⟩ := hruns_ok (listed := setB listed i) htb (frB_ok ha hc.2) hk' hf hS
       obtain ⟨g5, g6⟩ := hv' g1
       exact WG.takeB i hi ht1 ht2 hw hd hc.1.2 hst (fun w => g6 w (fun p hp => by cases hp) o rfl) (g3 ht.2 w hst kk)
   ·cases hr
  ·cases hr
theorem WH.rn [t : TbOk P tb] (is : List Nat) (hst : St w0 T L w) (h : List Nat) {listed : List Bool} {F fuel : Nat} {f f' : Fr} {S : Prop} (hr : hruns tb n ol L [] is f h True = some (f', S)) (hf : fuelB F is = some fuel) (kk : WH P n ol (fun w' => St w0 T L w') fuel (setBs listed is) K f' w) (hb : takesH ol listed is = true := by kernel_rfl)
  (hS : S := by repeat (first | exact trivial | refine ⟨by first | exact rfl | omega | exact u8_in _ | (constructor <;> omega), ?_⟩)) : WH P n ol (fun w' => St w0 T L w') F listed K f w :=
 (hruns_ok (k := 0) (S0 := fun _ => True) t.ok Acts.nil hr hf hS).2.1 hb w hst kk
theorem WH.rnA [t : TbOk P tb] {f : Fr} (ha : Acts ol act f) (is : List Nat) (hst : St w0 T L w) (h : List Nat) {listed : List Bool} {F fuel : Nat} {f' : Fr} {S : Prop} (hr : hruns tb n ol L act is f h True = some (f', S)) (hf : fuelB F is = some fuel) (kk : WH P n ol (fun w' => St w0 T L w') fuel (setBs listed is) K f' w) (hb : takesH ol listed is = true := by kernel_rfl)
  (hS : S := by repeat (first | exact trivial | refine ⟨by first | exact rfl | omega | exact u8_in _ | (constructor <;> omega), ?_⟩)) : WH P n ol (fun w' => St w0 T L w') F listed K f w :=
 (hruns_ok (k := 0) (S0 := fun _ => True) t.ok ha hr hf hS).2.1 hb w hst kk
theorem WG.rn [t : TbOk P tb] (is : List Nat) (hst : St w0 T L w) (h : List Nat) {listed : List Bool} {F fuel : Nat} {f f' : Fr} {S : Prop} (hr : hruns tb n ol L [] is f h True = some (f', S)) (hf : fuelB F is = some fuel) (kk : WG P n ol k (fun w' => St w0 T L w') S0 fuel (setBs listed is) K f' w) (hb : takesG ol k listed is = true := by kernel_rfl)
  (hS : S := by repeat (first | exact trivial | refine ⟨by first | exact rfl | omega | exact u8_in _ | (constructor <;> omega), ?_⟩)) : WG P n ol k (fun w' => St w0 T L w') S0 F listed K f w :=
 (hruns_ok (k := k) (S0 := S0) t.ok Acts.nil hr hf hS).2.2 hb w hst kk
theorem WG.rnA [t : TbOk P tb] {f : Fr} (ha : Acts ol act f) (is : List Nat) (hst : St w0 T L w) (h : List Nat) {listed : List Bool} {F fuel : Nat} {f' : Fr} {S : Prop} (hr : hruns tb n ol L act is f h True = some (f', S)) (hf : fuelB F is = some fuel) (kk : WG P n ol k (fun w' => St w0 T L w') S0 fuel (setBs listed is) K f' w) (hb : takesG ol k listed is = true := by kernel_rfl)
  (hS : S := by repeat (first | exact trivial | refine ⟨by first | exact rfl | omega | exact u8_in _ | (constructor <;> omega), ?_⟩)) : WG P n ol k (fun w' => St w0 T L w') S0 F listed K f w :=
 (hruns_ok (k := k) (S0 := S0) t.ok ha hr hf hS).2.2 hb w hst kk
end
section
variable {P : Program} {n : Nat} {ol : List Oper} {o : Oper} {K : Fr → World → Prop} {f : Fr} {w : World} {S S1 : World → Prop} {fuel k : Nat} {listed : List Bool}
theorem WH.o1 (i : Nat) (hi : nthO ol i = some o) (h : WL P n ol [o] (fun f' w' => S w' ∧ WH P n ol S fuel (setB listed i) K f' w') f w) (hr : Region.ready .any ol.toArray listed.toArray = [i] := by kernel_rfl) : WH P n ol S (fuel + 1) listed K f w := WH.all [i] hr rfl (WHs.cons hi h WHs.nil)
theorem WG.o1 (i : Nat) (hi : nthO ol i = some o) (hn : Nat.beq i k = false) (h : WL P n ol [o] (fun f' w' => S1 w' ∧ WG P n ol k S1 S fuel (setB listed i) K f' w') f w) (hr : Region.ready .any ol.toArray listed.toArray = [i] := by kernel_rfl) : WG P n ol k S1 S (fuel + 1) listed K f w := WG.all [i] hr rfl (WGs.cons hi hn h WGs.nil)
theorem WG.oK (hi : nthO ol k = some o) (h : WL P n ol [o] (fun f' w' => S w' ∧ WH P n ol S fuel (setB listed k) K f' w') f w) (hr : Region.ready .any ol.toArray listed.toArray = [k] := by kernel_rfl) : WG P n ol k S1 S (fuel + 1) listed K f w := WG.all [k] hr rfl (WGs.consK hi h WGs.nil)
theorem WH.dn (h : K f w) (hr : Region.ready .any ol.toArray listed.toArray = [] := by kernel_rfl) : WH P n ol S fuel listed K f w := WH.done hr h
theorem WL.n2 (h1 : S w) (h2 : WH P n ol S1 fuel listed K f w) : WL P n ol [] (fun f' w' => S w' ∧ WH P n ol S1 fuel listed K f' w') f w := WL.nil ⟨h1, h2⟩
end
section
variable {P : Program} {n : Nat} {w0 w : World} {T : List Nat} {L L0 L1 : Hp} {f : Fr}
theorem WC.rH [m : Mx P] {id : Nat} {l : List Oper} {Q : Kont} (h0 : St w0 T L0 w) (h1 : St w0 T L w) (h : ∀ w', St w0 T L w' → WH P n l (fun w' => St w0 T L0 w') l.length (List.replicate l.length false) (fun f w => Q .normal f w) f w') : WC P n (.region id l.toArray true) Q f w := WC.regionH2 _ _ m.ok h0.drew h1.drew h
theorem WC.rG [m : Mx P] {id : Nat} {l : List Oper} {Q : Kont} (k : Nat) (h0 : St w0 T L0 w) (h1 : St w0 T L1 w) (h2 : St w0 T L w) (h : ∀ w', St w0 T L w' → WG P n l k (fun w' => St w0 T L1 w') (fun w' => St w0 T L0 w') l.length (List.replicate l.length false) (fun f w => Q .normal f w) f w') : WC P n (.region id l.toArray true) Q f w := WC.regionG k _ _ _ m.ok h0.drew h1.drew h2.drew h
end
class Fr1 (X L : Hp) (R : outParam Hp) : Prop where
 pf : (X ++ R).Perm L
theorem fr1_mid {X A R L : Hp} (h : (X ++ R).Perm L) : (X ++ (A ++ R)).Perm (A ++ L) := perm_front h
instance (priority := low) fr1End {X : Hp} : Fr1 X X [] := ⟨by rw [List.append_nil]⟩
instance fr1App {X L R A : Hp} [h : Fr1 X L R] : Fr1 X (A ++ L) (A ++ R) := ⟨fr1_mid h.pf⟩
instance fr1Cons {X L R : Hp} {p : Nat × Obj} [h : Fr1 X L R] : Fr1 X (p :: L) (p :: R) := ⟨fr1_mid (A := [p]) h.pf⟩
instance (priority := high) fr1Nil {L : Hp} : Fr1 [] L L := ⟨List.Perm.refl _⟩
instance (priority := high) fr1Here {X R : Hp} : Fr1 X (X ++ R) R := ⟨List.Perm.refl _⟩
instance fr1App' {X L R A : Hp} [h : Fr1 X L R] : Fr1 X (A.append L) (A ++ R) := ⟨fr1_mid h.pf⟩
instance (priority := high) fr1Here' {X R : Hp} : Fr1 X (X.append R) R := ⟨List.Perm.refl _⟩
class FrB (b : Nat) (L : Hp) (o : outParam Obj) (R : outParam Hp) : Prop where
 pf : ((b, o) :: R).Perm L
instance frbApp {b : Nat} {o : Obj} {L R A : Hp} [h : FrB b L o R] : FrB b (A ++ L) o (A ++ R) := ⟨fr1_mid (X := [(b, o)]) h.pf⟩
instance frbCons {b : Nat} {o : Obj} {L R : Hp} {p : Nat × Obj} [h : FrB b L o R] : FrB b (p :: L) o (p :: R) := ⟨fr1_mid (X := [(b, o)]) (A := [p]) h.pf⟩
instance frbApp' {b : Nat} {o : Obj} {L R A : Hp} [h : FrB b L o R] : FrB b (A.append L) o (A ++ R) := ⟨fr1_mid (X := [(b, o)]) h.pf⟩
instance frbIn {b : Nat} {o : Obj} {L R A : Hp} {p : Nat × Obj} [h : FrB b (A ++ L) o R] : FrB b ((p :: A) ++ L) o (p :: R) := ⟨fr1_mid (X := [(b, o)]) (A := [p]) h.pf⟩
instance frbIn' {b : Nat} {o : Obj} {L R A : Hp} {p : Nat × Obj} [h : FrB b (A.append L) o R] : FrB b (List.append (p :: A) L) o (p :: R) := ⟨fr1_mid (X := [(b, o)]) (A := [p]) h.pf⟩
instance (priority := high) frbHd {b : Nat} {o : Obj} {R A : Hp} : FrB b (((b, o) :: A) ++ R) o (A ++ R) := ⟨List.Perm.refl _⟩
instance (priority := high) frbHd' {b : Nat} {o : Obj} {R A : Hp} : FrB b (List.append ((b, o) :: A) R) o (A ++ R) := ⟨List.Perm.refl _⟩
instance (priority := high) frbOne' {b : Nat} {o : Obj} {R : Hp} : FrB b (List.append [(b, o)] R) o R := ⟨List.Perm.refl _⟩
instance (priority := high) frbOne {b : Nat} {o : Obj} {R : Hp} : FrB b ([(b, o)] ++ R) o R := ⟨List.Perm.refl _⟩
instance (priority := high) frbHere {b : Nat} {o : Obj} {R : Hp} : FrB b ((b, o) :: R) o R := ⟨List.Perm.refl _⟩
section
variable {w0 w : World} {T : List Nat} {L R A B C D R1 R2 R3 R4 : Hp} {o : Obj} {p q : Nat × Obj}
theorem St.fr (h : St w0 T L w) (X : Hp) [k : Fr1 X L R] : St w0 T (X ++ R) w := h.perm k.pf
theorem St.rm (h : St w0 T L w) (X : Hp) [k : Fr1 X L R] : St w0 T R w := (h.perm k.pf).drop (sR _)
theorem St.fb (h : St w0 T L w) (b : Nat) [k : FrB b L o R] : St w0 T ((b, o) :: R) w := h.perm k.pf
theorem St.ow (h : St w0 T L w) (X : Hp) [k : Fr1 X L R] : ∀ p, p ∈ X → w.heap[p.1]? = some p.2 := fun p hp => (h.own p (k.pf.mem_iff.1 (List.mem_append_left _ hp))).1
theorem St.d1 (h : St w0 T (p :: L) w) : St w0 T L w := h.drop (List.sublist_cons_self _ _)
end
class BoolP (b : Bool) (p q : outParam Prop) : Prop where
 t : b = true → p
 f : b = false → q
instance (priority := low) boolP0 {b : Bool} : BoolP b (b = true) (b = false) := ⟨id, id⟩
instance boolPD {p : Prop} [d : Decidable p] : BoolP (decide p) p (¬ p) := ⟨of_decide_eq_true, of_decide_eq_false⟩
instance boolPN {b : Bool} {p q : Prop} [h : BoolP b p q] : BoolP (!b) q p := ⟨fun e => h.f (by simpa using e), fun e => h.t (by simpa using e)⟩
instance boolPA {a b : Bool} {p q p' q' : Prop} [h : BoolP a p q] [k : BoolP b p' q'] : BoolP (a && b) (p ∧ p') ((a && b) = false) := ⟨fun e => by rw [Bool.and_eq_true] at e; exact ⟨h.t e.1, k.t e.2⟩, id⟩
instance boolPO {a b : Bool} {p q p' q' : Prop} [h : BoolP a p q] [k : BoolP b p' q'] : BoolP (a || b) ((a || b) = true) (q ∧ q') := ⟨id, fun e => by rw [Bool.or_eq_false_iff] at e; exact ⟨h.f e.1, k.f e.2⟩⟩
section
variable {P : Program} {n : Nat} {w : World} {f : Fr}
theorem WC.cq {c : Operand} {x y : Code} {t : Bool} {p q : Prop} {Q : Kont} (hc : ev f c = some (.bool t)) [i : BoolP t p q] (hx : t = true → p → WC P n x Q f w) (hy : t = false → q → WC P n y Q f w) : WC P n (.cond c x y) Q f w :=
 WC.cond hc (fun h => hx h (i.t h)) (fun h => hy h (i.f h))
end
def rstr : List Nat → Fr → Option Fr
 | [], _ => some []
 | i :: r, f => match lk f i with
  | some v => (match rstr r f with
   | some g => some ((i, v) :: g)
   | none => none)
  | none => none
theorem rstr_ok : ∀ {is : List Nat} {f F : Fr}, rstr is f = some F → Sub F f
 | [], f, F, h => by simp only [rstr, Option.some.injEq] at h; subst h; trivial
 | i :: r, f, F, h => by
  unfold rstr at h
  split at h
  ·rename_i v hv
   split at h
   ·rename_i g hg
    simp only [Option.some.injEq] at h
    subst h
    exact ⟨hv, rstr_ok hg⟩
   ·cases h
  ·cases h
def keysF : Fr → List Nat
 | [] => []
 | (i, _) :: r => i :: keysF r
theorem sbF {F f : Fr} (h : rstr (keysF F) f = some F) : Sub F f := rstr_ok h
section
variable {P : Program} {n : Nat} {c : Code} {Q : Kont} {f : Fr} {w0 w : World} {T : List Nat} {R L L0 : Hp}
theorem WC.lV {F : Fr} {L0 : Hp} (is : List Nat) (hF : rstr is f = some F) (hst : St w0 T (L0 ++ R) w) (I : Nat → Hp → Fr → Prop) (k0 : Nat) (h0 : I k0 L0 f)
  (hr : ∀ k a f w, I k a f → Sub F f → St w0 T (a ++ R) w → WC P n c (thenK (fun f' w' => Sub F f' ∧ ∃ a', St w0 T (a' ++ R) w' ∧ ∃ k', k' < k ∧ I k' a' f') Q) f w) : WC P n (.loop c) Q f w :=
 WC.loopV (α := Hp) F (rstr_ok hF) (fun a => a) L0 hst I k0 h0 hr
theorem WC.lS {F : Fr} (is : List Nat) (hF : rstr is f = some F) (hst : St w0 T L w) (I : Nat → Fr → World → Prop) (k0 : Nat) (h0 : I k0 f w)
  (hr : ∀ k f w, I k f w → Sub F f → St w0 T L w → WC P n c (thenK (fun f' w' => Sub F f' ∧ St w0 T L w' ∧ ∃ k', k' < k ∧ I k' f' w') Q) f w) : WC P n (.loop c) Q f w :=
 WC.loopS F (rstr_ok hF) hst I k0 h0 hr
theorem WC.lO {F : Fr} (is : List Nat) (hF : rstr is f = some F) (hst : St w0 T (L0 ++ R) w) (I : Nat → Fr → Hp → Prop) (k0 : Nat) (h0 : I k0 f L0)
  (hr : ∀ k f w L, I k f L → Sub F f → St w0 T (L ++ R) w → WC P n c (thenK (fun f' w' => Sub F f' ∧ ∃ L', St w0 T (L' ++ R) w' ∧ ∃ k', k' < k ∧ I k' f' L') Q) f w) : WC P n (.loop c) Q f w :=
 WC.loopO F (rstr_ok hF) hst I k0 h0 hr
end
def clC (n : Nat) (o : Oper) (f : Fr) : Option (FuncId × List Value × Nat) :=
 match o.guard, o.dst, o.op with
 | none, some d, .call c => (match c.callee with
  | .value fo => (match ev f fo, evs f c.args.toList with
   | some (.func (.func g) ⟨[]⟩ ⟨[]⟩), some vl => bif Nat.blt d n then some (g, vl, d) else none
   | _, _ => none)
  | _ => none)
 | _, _, _ => none
section
variable {P : Program} {n : Nat} {ol rest : List Oper} {o : Oper} {K : Fr → World → Prop} {f : Fr} {w : World}
theorem WL.cl {g d : Nat} {vl : List Value} {R : Ending → World → Prop} (hf : ∀ args w, (callFunc g args).run P w = .ok (.enter g args) w) (h : clC n o f = some (g, vl, d)) (hc : Calls P g vl.toArray w R) (k : ∀ e w', R e w' → ∃ v, e = .returned v ∧ WL P n ol rest K ((d, v) :: f) w') : WL P n ol (o :: rest) K f w := by
 unfold clC at h
 split at h
 ·rename_i d' c hg hd ho
  split at h
  ·rename_i fo hcal
   split at h
   ·rename_i g' vl' hfo hvs
    cases hn : Nat.blt d' n with
    | false => rw [hn] at h; cases h
    | true =>
     rw [hn] at h
     simp only [cond_true, Option.some.injEq, Prod.mk.injEq] at h
     obtain ⟨rfl, rfl, rfl⟩ := h
     refine WL.call (want_none hg) hd hn (Run.call (ts := c.argTypes) (args := c.args) hf ?_ hfo hvs) hc k
     rw [ho]
     obtain ⟨c1, c2, c3⟩ := c
     simp only at hcal
     subst hcal
     rfl
   ·cases h
  ·cases h
 ·cases h
end
def tbt1 : TT := .node .leaf 0 ⟨.other, 1, false⟩ .leaf
def tbt2 : TT := .node tbt1 3 ⟨.int .i64, 1, false⟩ .leaf
def tbt3 : TT := .node .leaf 5 ⟨.int .u8, 1, false⟩ .leaf
def tbt4 : TT := .node tbt2 4 ⟨.bool, 1, false⟩ tbt3
def tbt5 : TT := .node .leaf 22 ⟨.slice 75, 1, false⟩ .leaf
def tbt6 : TT := .node .leaf 24 ⟨.slice 80, 1, false⟩ .leaf
def tbt7 : TT := .node tbt5 23 ⟨.slice 78, 1, false⟩ tbt6
def tbt8 : TT := .node tbt4 9 ⟨.str, 1, false⟩ tbt7
def tbt9 : TT := .node .leaf 27 ⟨.slice 5, 1, false⟩ .leaf
def tbt10 : TT := .node .leaf 32 ⟨.slice 58, 1, false⟩ .leaf
def tbt11 : TT := .node tbt9 29 ⟨.struct [0, 1, 2, 3], 4, true⟩ tbt10
def tbt12 : TT := .node .leaf 34 ⟨.slice 60, 1, false⟩ .leaf
def tbt13 : TT := .node .leaf 37 ⟨.other, 1, false⟩ .leaf
def tbt14 : TT := .node tbt12 36 ⟨.struct [0, 1, 2, 3, 4, 5], 6, true⟩ tbt13
def tbt15 : TT := .node tbt11 33 ⟨.slice 82, 1, false⟩ tbt14
def tbt16 : TT := .node tbt8 26 ⟨.struct [0, 1, 2, 3, 4, 5], 6, true⟩ tbt15
def tbt17 : TT := .node .leaf 58 ⟨.struct [0, 1, 2], 3, true⟩ .leaf
def tbt18 : TT := .node tbt17 60 ⟨.struct [0, 1, 2, 3], 4, true⟩ .leaf
def tbt19 : TT := .node .leaf 78 ⟨.struct [0, 1], 2, true⟩ .leaf
def tbt20 : TT := .node tbt18 75 ⟨.struct [0, 1, 2], 3, true⟩ tbt19
def tbt21 : TT := .node .leaf 81 ⟨.slice 3, 1, false⟩ .leaf
def tbt22 : TT := .node .leaf 98 ⟨.other, 1, false⟩ .leaf
def tbt23 : TT := .node tbt21 82 ⟨.struct [0, 1], 2, true⟩ tbt22
def tbt24 : TT := .node tbt20 80 ⟨.struct [0, 1, 2, 3], 4, true⟩ tbt23
def tbt25 : TT := .node .leaf 109 ⟨.other, 1, false⟩ .leaf
def tbt26 : TT := .node .leaf 116 ⟨.other, 1, false⟩ .leaf
def tbt27 : TT := .node tbt25 113 ⟨.other, 1, false⟩ tbt26
def tbt28 : TT := .node .leaf 125 ⟨.int .u64, 1, false⟩ .leaf
def tbt29 : TT := .node .leaf 130 ⟨.other, 1, false⟩ .leaf
def tbt30 : TT := .node tbt28 127 ⟨.other, 1, false⟩ tbt29
def tbt31 : TT := .node tbt27 119 ⟨.other, 1, false⟩ tbt30
def tbt32 : TT := .node tbt24 100 ⟨.other, 1, false⟩ tbt31
def tbt33 : TT := .node tbt16 40 ⟨.struct [0, 1, 2, 3], 4, true⟩ tbt32
theorem tbt1_ok : tbt1.Ok Tryz.prog := ⟨trivial, ⟨trivial, Tryz.sizeOf0, Tryz.isAgg0⟩, trivial⟩
theorem tbt2_ok : tbt2.Ok Tryz.prog := ⟨tbt1_ok, ⟨Tryz.runUnderlying3, Tryz.sizeOf3, Tryz.isAgg3⟩, trivial⟩
theorem tbt3_ok : tbt3.Ok Tryz.prog := ⟨trivial, ⟨Tryz.runUnderlying5, Tryz.sizeOf5, Tryz.isAgg5⟩, trivial⟩
theorem tbt4_ok : tbt4.Ok Tryz.prog := ⟨tbt2_ok, ⟨Tryz.runUnderlying4, Tryz.sizeOf4, Tryz.isAgg4⟩, tbt3_ok⟩
theorem tbt5_ok : tbt5.Ok Tryz.prog := ⟨trivial, ⟨Tryz.runUnderlying22, Tryz.sizeOf22, Tryz.isAgg22⟩, trivial⟩
theorem tbt6_ok : tbt6.Ok Tryz.prog := ⟨trivial, ⟨Tryz.runUnderlying24, Tryz.sizeOf24, Tryz.isAgg24⟩, trivial⟩
theorem tbt7_ok : tbt7.Ok Tryz.prog := ⟨tbt5_ok, ⟨Tryz.runUnderlying23, Tryz.sizeOf23, Tryz.isAgg23⟩, tbt6_ok⟩
theorem tbt8_ok : tbt8.Ok Tryz.prog := ⟨tbt4_ok, ⟨Tryz.runUnderlying9, Tryz.sizeOf9, Tryz.isAgg9⟩, tbt7_ok⟩
theorem tbt9_ok : tbt9.Ok Tryz.prog := ⟨trivial, ⟨Tryz.runUnderlying27, Tryz.sizeOf27, Tryz.isAgg27⟩, trivial⟩
theorem tbt10_ok : tbt10.Ok Tryz.prog := ⟨trivial, ⟨Tryz.runUnderlying32, Tryz.sizeOf32, Tryz.isAgg32⟩, trivial⟩
theorem tbt11_ok : tbt11.Ok Tryz.prog := ⟨tbt9_ok, ⟨⟨_, Tryz.runUnderlying29, rfl, ⟨⟨_, Tryz.sizeOf3, rfl⟩, ⟨⟨_, Tryz.sizeOf9, rfl⟩, ⟨⟨_, Tryz.sizeOf9, rfl⟩, ⟨⟨_, Tryz.sizeOf27, rfl⟩, trivial⟩⟩⟩⟩⟩, Tryz.sizeOf29, Tryz.isAgg29⟩, tbt10_ok⟩
theorem tbt12_ok : tbt12.Ok Tryz.prog := ⟨trivial, ⟨Tryz.runUnderlying34, Tryz.sizeOf34, Tryz.isAgg34⟩, trivial⟩
theorem tbt13_ok : tbt13.Ok Tryz.prog := ⟨trivial, ⟨trivial, Tryz.sizeOf37, Tryz.isAgg37⟩, trivial⟩
theorem tbt14_ok : tbt14.Ok Tryz.prog := ⟨tbt12_ok, ⟨⟨_, Tryz.runUnderlying36, rfl, ⟨⟨_, Tryz.sizeOf3, rfl⟩, ⟨⟨_, Tryz.sizeOf3, rfl⟩, ⟨⟨_, Tryz.sizeOf3, rfl⟩, ⟨⟨_, Tryz.sizeOf32, rfl⟩, ⟨⟨_, Tryz.sizeOf33, rfl⟩, ⟨⟨_, Tryz.sizeOf34, rfl⟩, trivial⟩⟩⟩⟩⟩⟩⟩, Tryz.sizeOf36, Tryz.isAgg36⟩, tbt13_ok⟩
theorem tbt15_ok : tbt15.Ok Tryz.prog := ⟨tbt11_ok, ⟨Tryz.runUnderlying33, Tryz.sizeOf33, Tryz.isAgg33⟩, tbt14_ok⟩
theorem tbt16_ok : tbt16.Ok Tryz.prog := ⟨tbt8_ok, ⟨⟨_, Tryz.runUnderlying26, rfl, ⟨⟨_, Tryz.sizeOf3, rfl⟩, ⟨⟨_, Tryz.sizeOf3, rfl⟩, ⟨⟨_, Tryz.sizeOf3, rfl⟩, ⟨⟨_, Tryz.sizeOf22, rfl⟩, ⟨⟨_, Tryz.sizeOf23, rfl⟩, ⟨⟨_, Tryz.sizeOf24, rfl⟩, trivial⟩⟩⟩⟩⟩⟩⟩, Tryz.sizeOf26, Tryz.isAgg26⟩, tbt15_ok⟩
theorem tbt17_ok : tbt17.Ok Tryz.prog := ⟨trivial, ⟨⟨_, Tryz.runUnderlying58, rfl, ⟨⟨_, Tryz.sizeOf3, rfl⟩, ⟨⟨_, Tryz.sizeOf27, rfl⟩, ⟨⟨_, Tryz.sizeOf3, rfl⟩, trivial⟩⟩⟩⟩, Tryz.sizeOf58, Tryz.isAgg58⟩, trivial⟩
theorem tbt18_ok : tbt18.Ok Tryz.prog := ⟨tbt17_ok, ⟨⟨_, Tryz.runUnderlying60, rfl, ⟨⟨_, Tryz.sizeOf3, rfl⟩, ⟨⟨_, Tryz.sizeOf9, rfl⟩, ⟨⟨_, Tryz.sizeOf9, rfl⟩, ⟨⟨_, Tryz.sizeOf3, rfl⟩, trivial⟩⟩⟩⟩⟩, Tryz.sizeOf60, Tryz.isAgg60⟩, trivial⟩
theorem tbt19_ok : tbt19.Ok Tryz.prog := ⟨trivial, ⟨⟨_, Tryz.runUnderlying78, rfl, ⟨⟨_, Tryz.sizeOf9, rfl⟩, ⟨⟨_, Tryz.sizeOf3, rfl⟩, trivial⟩⟩⟩, Tryz.sizeOf78, Tryz.isAgg78⟩, trivial⟩
theorem tbt20_ok : tbt20.Ok Tryz.prog := ⟨tbt18_ok, ⟨⟨_, Tryz.runUnderlying75, rfl, ⟨⟨_, Tryz.sizeOf3, rfl⟩, ⟨⟨_, Tryz.sizeOf27, rfl⟩, ⟨⟨_, Tryz.sizeOf3, rfl⟩, trivial⟩⟩⟩⟩, Tryz.sizeOf75, Tryz.isAgg75⟩, tbt19_ok⟩
theorem tbt21_ok : tbt21.Ok Tryz.prog := ⟨trivial, ⟨Tryz.runUnderlying81, Tryz.sizeOf81, Tryz.isAgg81⟩, trivial⟩
theorem tbt22_ok : tbt22.Ok Tryz.prog := ⟨trivial, ⟨trivial, Tryz.sizeOf98, Tryz.isAgg98⟩, trivial⟩
theorem tbt23_ok : tbt23.Ok Tryz.prog := ⟨tbt21_ok, ⟨⟨_, Tryz.runUnderlying82, rfl, ⟨⟨_, Tryz.sizeOf9, rfl⟩, ⟨⟨_, Tryz.sizeOf3, rfl⟩, trivial⟩⟩⟩, Tryz.sizeOf82, Tryz.isAgg82⟩, tbt22_ok⟩
theorem tbt24_ok : tbt24.Ok Tryz.prog := ⟨tbt20_ok, ⟨⟨_, Tryz.runUnderlying80, rfl, ⟨⟨_, Tryz.sizeOf3, rfl⟩, ⟨⟨_, Tryz.sizeOf9, rfl⟩, ⟨⟨_, Tryz.sizeOf9, rfl⟩, ⟨⟨_, Tryz.sizeOf3, rfl⟩, trivial⟩⟩⟩⟩⟩, Tryz.sizeOf80, Tryz.isAgg80⟩, tbt23_ok⟩
theorem tbt25_ok : tbt25.Ok Tryz.prog := ⟨trivial, ⟨trivial, Tryz.sizeOf109, Tryz.isAgg109⟩, trivial⟩
theorem tbt26_ok : tbt26.Ok Tryz.prog := ⟨trivial, ⟨trivial, Tryz.sizeOf116, Tryz.isAgg116⟩, trivial⟩
theorem tbt27_ok : tbt27.Ok Tryz.prog := ⟨tbt25_ok, ⟨trivial, Tryz.sizeOf113, Tryz.isAgg113⟩, tbt26_ok⟩
theorem tbt28_ok : tbt28.Ok Tryz.prog := ⟨trivial, ⟨Tryz.runUnderlying125, Tryz.sizeOf125, Tryz.isAgg125⟩, trivial⟩
theorem tbt29_ok : tbt29.Ok Tryz.prog := ⟨trivial, ⟨trivial, Tryz.sizeOf130, Tryz.isAgg130⟩, trivial⟩
theorem tbt30_ok : tbt30.Ok Tryz.prog := ⟨tbt28_ok, ⟨trivial, Tryz.sizeOf127, Tryz.isAgg127⟩, tbt29_ok⟩
theorem tbt31_ok : tbt31.Ok Tryz.prog := ⟨tbt27_ok, ⟨trivial, Tryz.sizeOf119, Tryz.isAgg119⟩, tbt30_ok⟩
theorem tbt32_ok : tbt32.Ok Tryz.prog := ⟨tbt24_ok, ⟨trivial, Tryz.sizeOf100, Tryz.isAgg100⟩, tbt31_ok⟩
theorem tbt33_ok : tbt33.Ok Tryz.prog := ⟨tbt16_ok, ⟨⟨_, Tryz.runUnderlying40, rfl, ⟨⟨_, Tryz.sizeOf3, rfl⟩, ⟨⟨_, Tryz.sizeOf9, rfl⟩, ⟨⟨_, Tryz.sizeOf9, rfl⟩, ⟨⟨_, Tryz.sizeOf27, rfl⟩, trivial⟩⟩⟩⟩⟩, Tryz.sizeOf40, Tryz.isAgg40⟩, tbt32_ok⟩
theorem tbk : TT.Ok Tryz.prog tbt33 := tbt33_ok
instance tbkI : TbOk Tryz.prog tbt33 := ⟨tbk⟩
instance mxI : Mx Tryz.prog := ⟨by kernel_rfl⟩
def digB : Nat → Nat → List UInt8 → List UInt8
  | 0, _, a => a
  | f + 1, n, a => if n = 0 then a else digB f (n / 10) (ub (48 + ((n % 10 : Nat) : Int)) :: a)
theorem digB_len : ∀ (f n : Nat) (a : List UInt8), (digB f n a).length ≤ a.length + f
  | 0, n, a => Nat.le_refl _
  | f + 1, n, a => by
    unfold digB
    split
    · omega
    · have := digB_len f (n / 10) (ub (48 + ((n % 10 : Nat) : Int)) :: a)
      rw [List.length_cons] at this
      omega
def markText (k : Int) : ByteArray := ⟨(109 :: (if k ≤ 0 then [48] else digB 40 k.toNat [])).toArray⟩
theorem markText_size (k : Int) : (markText k).size ≤ 41 := by
  show (109 :: (if k ≤ 0 then [48] else digB 40 k.toNat [])).toArray.size ≤ 41
  rw [List.size_toArray, List.length_cons]
  split
  · decide
  · have := digB_len 40 k.toNat []
    rw [List.length_nil] at this
    omega
theorem inf3 : Tryz.prog.info? 3 = some Tryz.t3 := by kernel_rfl
theorem inf5 : Tryz.prog.info? 5 = some Tryz.t5 := by kernel_rfl
theorem inf58 : Tryz.prog.info? 58 = some Tryz.t58 := by kernel_rfl
theorem inf60 : Tryz.prog.info? 60 = some Tryz.t60 := by kernel_rfl
theorem inf82 : Tryz.prog.info? 82 = some Tryz.t82 := by kernel_rfl
theorem marks_mem {α : Type} {mk : Int → α} {P : α → Prop} (h : ∀ q, P (mk q)) {s : Nat} {k : Int} {n : Nat} : ∀ y, y ∈ marks mk s k n → P y := by
  intro y hy
  unfold marks at hy
  obtain ⟨i, _, rfl⟩ := List.mem_map.1 hy
  exact h _
def mkLink (k : Int) : LinkD := ⟨markText k, (k + 1)⟩
def totLink (d : LinkD) : Nat := d.Name.size
def smLink (B : Nat) (d : LinkD) : Prop := d.Name.size ≤ B
theorem smLink_le {B B' : Nat} {d : LinkD} (h : smLink B d) (hB : B ≤ B') : smLink B' d := Nat.le_trans h hB
theorem totLink_sm {B : Nat} {d : LinkD} (h : totLink d ≤ B) : smLink B d := by unfold totLink at h; unfold smLink; omega
theorem mkLink_sm (k : Int) : smLink 549755813888 (mkLink k) := Nat.le_trans (markText_size _) (Nat.le_of_ble_eq_true rfl)
def mkTurn (k : Int) : TurnD := ⟨k, markText (k + 1), markText (k + 1 + 1), (k + 1 + 1 + 1)⟩
def totTurn (d : TurnD) : Nat := d.Name.size + d.To.size
def smTurn (B : Nat) (d : TurnD) : Prop := d.Name.size ≤ B ∧ d.To.size ≤ B
theorem smTurn_le {B B' : Nat} {d : TurnD} (h : smTurn B d) (hB : B ≤ B') : smTurn B' d := ⟨Nat.le_trans h.1 hB, Nat.le_trans h.2 hB⟩
theorem totTurn_sm {B : Nat} {d : TurnD} (h : totTurn d ≤ B) : smTurn B d := by unfold totTurn at h; unfold smTurn; omega
theorem mkTurn_sm (k : Int) : smTurn 549755813888 (mkTurn k) := ⟨Nat.le_trans (markText_size _) (Nat.le_of_ble_eq_true rfl), Nat.le_trans (markText_size _) (Nat.le_of_ble_eq_true rfl)⟩
structure FileR where
  Id : Int
  Body : SlD UInt8
  Safe : Int
def encFileR : Enc FileR := ⟨3, fun d => [i64 d.Id, .slice d.Body.A d.Body.n d.Body.c, i64 d.Safe], ⟨0, ⟨none, 0, 0, []⟩, 0⟩, fun _ => rfl, fun x v h => by simp at h; rcases h with rfl | rfl | rfl <;> rfl, by decide⟩
structure okFileR (B : Nat) (w : World) (x : FileR) : Prop where
  Body : SlF encB w x.Body.A x.Body.n x.Body.xs
  Body_c : x.Body.n ≤ x.Body.c
  Body_n : x.Body.n ≤ B
structure sepFileR (T : List Nat) (x : FileR) : Prop where
  Body : 0 < x.Body.n → (adr x.Body.A).block ∉ T
theorem okFileR.st0 {B : Nat} {w0 w : World} {L : Hp} {x : FileR} (h : okFileR B w0 x) (hs : St w0 [] L w) : okFileR B w x := ⟨SlF.st0 h.Body hs, h.Body_c, h.Body_n⟩
theorem okFileR.st {B : Nat} {w0 w : World} {T : List Nat} {L : Hp} {x : FileR} (h : okFileR B w0 x) (hs : St w0 T L w) (hp : sepFileR T x) : okFileR B w x := ⟨SlF.st h.Body hs hp.Body, h.Body_c, h.Body_n⟩
theorem okFileR.le {B B' : Nat} {w : World} {x : FileR} (h : okFileR B w x) (hB : B ≤ B') : okFileR B' w x := ⟨h.Body, h.Body_c, Nat.le_trans h.Body_n hB⟩
def FileR.dat (x : FileR) : FileD := ⟨x.Id, x.Body.xs, x.Safe⟩
def smFile (B : Nat) (d : FileD) : Prop := (d.Body.length ≤ B)
theorem okFileR.to {B B' : Nat} {w : World} {x : FileR} (h : okFileR B w x) (h2 : smFile B' x.dat) : okFileR B' w x := ⟨h.Body, h.Body_c, (by have := h.Body.len; have h3 := h2; simp only [smFile, FileR.dat] at h3; omega)⟩
def totFile (d : FileD) : Nat := d.Body.length
theorem totFile_sm {B : Nat} {d : FileD} (h : totFile d ≤ B) : smFile B d := by
  simp only [totFile] at h
  unfold smFile
  exact (by omega)
def ownFileR (x : FileR) (L : Hp) : Prop := OwnF encB 5 (.slice x.Body.A x.Body.n x.Body.c) x.Body.xs L
theorem ownFileR.len {x : FileR} {L : Hp} (h : ownFileR x L) : x.Body.xs.length = x.Body.n := by
  exact (OwnF.len_ h)
theorem ownFileR.ok {B : Nat} {w : World} {x : FileR} {L : Hp} (h : ownFileR x L) (hh : ∀ p, p ∈ L → w.heap[p.1]? = some p.2) (h2 : smFile B x.dat) : okFileR B w x := by
  exact ⟨SlF.ofOwn h (fun p hp => hh p hp), OwnF.cap h, (by have := OwnF.len_ h; have h3 := h2; simp only [FileR.dat, smFile] at h3; omega)⟩
def mkEFile (k : Int) (x : FileR) : FileR := ⟨k, { x.Body with xs := marks ub 1 (k + 1) x.Body.xs.length }, ((k + 1) + 1 * (x.Body.xs.length : Int))⟩
def cntEFile (x : FileR) : Int := 2 + 1 * (x.Body.xs.length : Int)
theorem cntEFile_le (x : FileR) : cntEFile x ≤ 64 + 64 * (totFile x.dat : Int) := by
  simp only [cntEFile, totFile, FileR.dat]
  omega
theorem cntEFile_ge (x : FileR) : 0 ≤ cntEFile x := by
  simp only [cntEFile]
  omega
theorem mkEFile_sm {B : Nat} {k : Int} {x : FileR} (h : smFile B x.dat) : smFile B (mkEFile k x).dat := (by have h3 := h; simpa [smFile, mkEFile, FileR.dat, marks_len] using h3)
structure DiskR where
  Room : Int
  Fuse : Int
  Next : Int
  Files : SlD FileR
  Kept : SlD LinkD
  Turns : SlD TurnD
def encDiskR : Enc DiskR := ⟨6, fun d => [i64 d.Room, i64 d.Fuse, i64 d.Next, .slice d.Files.A d.Files.n d.Files.c, .slice d.Kept.A d.Kept.n d.Kept.c, .slice d.Turns.A d.Turns.n d.Turns.c], ⟨0, 0, 0, ⟨none, 0, 0, []⟩, ⟨none, 0, 0, []⟩, ⟨none, 0, 0, []⟩⟩, fun _ => rfl, fun x v h => by simp at h; rcases h with rfl | rfl | rfl | rfl | rfl | rfl <;> rfl, by decide⟩
structure okDiskR (B : Nat) (w : World) (x : DiskR) : Prop where
  Files : SlN encFileR (okFileR B) w x.Files.A x.Files.n x.Files.xs
  Files_c : x.Files.n ≤ x.Files.c
  Files_n : x.Files.n ≤ B
  Kept : SlF encLink w x.Kept.A x.Kept.n x.Kept.xs
  Kept_c : x.Kept.n ≤ x.Kept.c
  Kept_n : x.Kept.n ≤ B
  Kept_s : ∀ y, y ∈ x.Kept.xs → smLink B y
  Turns : SlF encTurn w x.Turns.A x.Turns.n x.Turns.xs
  Turns_c : x.Turns.n ≤ x.Turns.c
  Turns_n : x.Turns.n ≤ B
  Turns_s : ∀ y, y ∈ x.Turns.xs → smTurn B y
structure sepDiskR (T : List Nat) (x : DiskR) : Prop where
  Files : 0 < x.Files.n → (adr x.Files.A).block ∉ T
  Files_a : ∀ y, y ∈ x.Files.xs → sepFileR T y
  Kept : 0 < x.Kept.n → (adr x.Kept.A).block ∉ T
  Turns : 0 < x.Turns.n → (adr x.Turns.A).block ∉ T
theorem okDiskR.st0 {B : Nat} {w0 w : World} {L : Hp} {x : DiskR} (h : okDiskR B w0 x) (hs : St w0 [] L w) : okDiskR B w x := ⟨⟨SlF.st0 h.Files.sl hs, fun y hy => okFileR.st0 (h.Files.all y hy) hs⟩, h.Files_c, h.Files_n, SlF.st0 h.Kept hs, h.Kept_c, h.Kept_n, h.Kept_s, SlF.st0 h.Turns hs, h.Turns_c, h.Turns_n, h.Turns_s⟩
theorem okDiskR.st {B : Nat} {w0 w : World} {T : List Nat} {L : Hp} {x : DiskR} (h : okDiskR B w0 x) (hs : St w0 T L w) (hp : sepDiskR T x) : okDiskR B w x := ⟨⟨SlF.st h.Files.sl hs hp.Files, fun y hy => okFileR.st (h.Files.all y hy) hs (hp.Files_a y hy)⟩, h.Files_c, h.Files_n, SlF.st h.Kept hs hp.Kept, h.Kept_c, h.Kept_n, h.Kept_s, SlF.st h.Turns hs hp.Turns, h.Turns_c, h.Turns_n, h.Turns_s⟩
theorem okDiskR.le {B B' : Nat} {w : World} {x : DiskR} (h : okDiskR B w x) (hB : B ≤ B') : okDiskR B' w x := ⟨⟨h.Files.sl, fun y hy => okFileR.le (h.Files.all y hy) hB⟩, h.Files_c, Nat.le_trans h.Files_n hB, h.Kept, h.Kept_c, Nat.le_trans h.Kept_n hB, fun y hy => smLink_le (h.Kept_s y hy) hB, h.Turns, h.Turns_c, Nat.le_trans h.Turns_n hB, fun y hy => smTurn_le (h.Turns_s y hy) hB⟩
def DiskR.dat (x : DiskR) : DiskD := ⟨x.Room, x.Fuse, x.Next, x.Files.xs.map FileR.dat, x.Kept.xs, x.Turns.xs⟩
def smDisk (B : Nat) (d : DiskD) : Prop := (d.Files.length ≤ B) ∧ (∀ y, y ∈ d.Files → smFile B y) ∧ (d.Kept.length ≤ B) ∧ (∀ y, y ∈ d.Kept → smLink B y) ∧ (d.Turns.length ≤ B) ∧ (∀ y, y ∈ d.Turns → smTurn B y)
theorem okDiskR.to {B B' : Nat} {w : World} {x : DiskR} (h : okDiskR B w x) (h2 : smDisk B' x.dat) : okDiskR B' w x := ⟨⟨h.Files.sl, fun y hy => (h.Files.all y hy).to (h2.2.1 _ (List.mem_map_of_mem hy))⟩, h.Files_c, (by have := h.Files.sl.len; have h3 := h2.1; simp only [smDisk, DiskR.dat, List.length_map] at h3; omega), h.Kept, h.Kept_c, (by have := h.Kept.len; have h3 := h2.2.2.1; simp only [smDisk, DiskR.dat] at h3; omega), h2.2.2.2.1, h.Turns, h.Turns_c, (by have := h.Turns.len; have h3 := h2.2.2.2.2.1; simp only [smDisk, DiskR.dat] at h3; omega), h2.2.2.2.2.2⟩
def totDisk (d : DiskD) : Nat := tots totFile d.Files + tots totLink d.Kept + tots totTurn d.Turns
theorem totDisk_sm {B : Nat} {d : DiskD} (h : totDisk d ≤ B) : smDisk B d := by
  simp only [totDisk] at h
  unfold smDisk
  exact ⟨(by have := tots_len totFile d.Files; omega), (fun y hy => totFile_sm (by have := tots_mem (f := totFile) hy; omega)), (by have := tots_len totLink d.Kept; omega), (fun y hy => totLink_sm (by have := tots_mem (f := totLink) hy; omega)), (by have := tots_len totTurn d.Turns; omega), (fun y hy => totTurn_sm (by have := tots_mem (f := totTurn) hy; omega))⟩
def ownDiskR (x : DiskR) (L : Hp) : Prop := ∃ L1 L2 L3, L = L1 ++ (L2 ++ L3) ∧ OwnN encFileR ownFileR 58 (.slice x.Files.A x.Files.n x.Files.c) x.Files.xs L1 ∧ OwnF encLink 82 (.slice x.Kept.A x.Kept.n x.Kept.c) x.Kept.xs L2 ∧ OwnF encTurn 60 (.slice x.Turns.A x.Turns.n x.Turns.c) x.Turns.xs L3
theorem ownDiskR.fold {w0 w : World} {T : List Nat} {L1 L2 L3 R : Hp} (x : DiskR) (hs : St w0 T (L1 ++ (L2 ++ (L3 ++ R))) w) (o1 : OwnN encFileR ownFileR 58 (.slice x.Files.A x.Files.n x.Files.c) x.Files.xs L1) (o2 : OwnF encLink 82 (.slice x.Kept.A x.Kept.n x.Kept.c) x.Kept.xs L2) (o3 : OwnF encTurn 60 (.slice x.Turns.A x.Turns.n x.Turns.c) x.Turns.xs L3) : ∃ L, St w0 T (L ++ R) w ∧ ownDiskR x L := ⟨L1 ++ (L2 ++ L3), by simpa only [List.append_assoc] using hs, L1, L2, L3, rfl, o1, o2, o3⟩
theorem ownDiskR.fl {w0 w : World} {T : List Nat} {L1 L2 L3 L S1 S2 S3 : Hp} [k1 : Fr1 L1 L S1] [k2 : Fr1 L2 S1 S2] [k3 : Fr1 L3 S2 S3] {A1 : Option Addr} {n1 c1 : Nat} {x1 : _} {A2 : Option Addr} {n2 c2 : Nat} {x2 : _} {A3 : Option Addr} {n3 c3 : Nat} {x3 : _} (hs : St w0 T L w) (o1 : OwnN encFileR ownFileR 58 (.slice A1 n1 c1) x1 L1) (o2 : OwnF encLink 82 (.slice A2 n2 c2) x2 L2) (o3 : OwnF encTurn 60 (.slice A3 n3 c3) x3 L3) : ∃ L', St w0 T (L' ++ S3) w ∧ ownDiskR ⟨0, 0, 0, ⟨A1, n1, c1, x1⟩, ⟨A2, n2, c2, x2⟩, ⟨A3, n3, c3, x3⟩⟩ L' := ⟨L1 ++ (L2 ++ L3), by simpa only [List.append_assoc] using hs.perm ((List.Perm.append_left L1 ((List.Perm.append_left L2 k3.pf).trans k2.pf)).trans k1.pf), L1, L2, L3, rfl, o1, o2, o3⟩
theorem ownDiskR.op {w0 w : World} {T : List Nat} {L LL R : Hp} {x : DiskR} [k : Fr1 LL L R] (hs : St w0 T L w) (h : ownDiskR x LL) : ∃ L1 L2 L3, St w0 T (L1 ++ (L2 ++ (L3 ++ R))) w ∧ OwnN encFileR ownFileR 58 (.slice x.Files.A x.Files.n x.Files.c) x.Files.xs L1 ∧ OwnF encLink 82 (.slice x.Kept.A x.Kept.n x.Kept.c) x.Kept.xs L2 ∧ OwnF encTurn 60 (.slice x.Turns.A x.Turns.n x.Turns.c) x.Turns.xs L3 := by
  have hs := hs.fr LL
  obtain ⟨L1, L2, L3, rfl, h⟩ := h
  exact ⟨L1, L2, L3, by simpa only [List.append_assoc] using hs, h⟩
theorem ownDiskR.ret {w w' : World} {K : List Nat} {L1 : Hp} {e : Ending} {D : DiskD} {v0 : Int} {v1 : Int} {v2 : Int} {A1 : Option Addr} {n1 c1 : Nat} {x1 : _} {A2 : Option Addr} {n2 c2 : Nat} {x2 : _} {A3 : Option Addr} {n3 c3 : Nat} {x3 : _} (he : e = .returned (.agg (List.toArray [i64 v0, i64 v1, i64 v2, .slice A1 n1 c1, .slice A2 n2 c2, .slice A3 n3 c3]))) (hs : St w K L1 w') (ho : ownDiskR ⟨0, 0, 0, ⟨A1, n1, c1, x1⟩, ⟨A2, n2, c2, x2⟩, ⟨A3, n3, c3, x3⟩⟩ L1) (hd : (⟨v0, v1, v2, ⟨A1, n1, c1, x1⟩, ⟨A2, n2, c2, x2⟩, ⟨A3, n3, c3, x3⟩⟩ : DiskR).dat = D) : ∃ r L1, e = .returned (.agg #[i64 r.Room, i64 r.Fuse, i64 r.Next, .slice r.Files.A r.Files.n r.Files.c, .slice r.Kept.A r.Kept.n r.Kept.c, .slice r.Turns.A r.Turns.n r.Turns.c]) ∧ St w K L1 w' ∧ ownDiskR r L1 ∧ r.dat = D := ⟨⟨v0, v1, v2, ⟨A1, n1, c1, x1⟩, ⟨A2, n2, c2, x2⟩, ⟨A3, n3, c3, x3⟩⟩, L1, he, hs, ho, hd⟩
theorem ownDiskR.retp {R : Hp} {val : Value} {b t : Nat} {w w' : World} {K : List Nat} {L1 : Hp} {e : Ending} {D : DiskD} {v0 : Int} {v1 : Int} {v2 : Int} {A1 : Option Addr} {n1 c1 : Nat} {x1 : _} {A2 : Option Addr} {n2 c2 : Nat} {x2 : _} {A3 : Option Addr} {n3 c3 : Nat} {x3 : _} (he : e = .returned val) (hs : St w K ((b, .cells (List.toArray [i64 v0, i64 v1, i64 v2, .slice A1 n1 c1, .slice A2 n2 c2, .slice A3 n3 c3]) t (0, 0)) :: (L1 ++ R)) w') (ho : ownDiskR ⟨0, 0, 0, ⟨A1, n1, c1, x1⟩, ⟨A2, n2, c2, x2⟩, ⟨A3, n3, c3, x3⟩⟩ L1) (hd : (⟨v0, v1, v2, ⟨A1, n1, c1, x1⟩, ⟨A2, n2, c2, x2⟩, ⟨A3, n3, c3, x3⟩⟩ : DiskR).dat = D) : ∃ r L1, e = .returned val ∧ St w K ([(b, .cells (List.toArray [i64 r.Room, i64 r.Fuse, i64 r.Next, .slice r.Files.A r.Files.n r.Files.c, .slice r.Kept.A r.Kept.n r.Kept.c, .slice r.Turns.A r.Turns.n r.Turns.c]) t (0, 0))] ++ L1) w' ∧ ownDiskR r L1 ∧ r.dat = D := ⟨⟨v0, v1, v2, ⟨A1, n1, c1, x1⟩, ⟨A2, n2, c2, x2⟩, ⟨A3, n3, c3, x3⟩⟩, L1, he, St.keepP hs, ho, hd⟩
theorem ownDiskR.open_ {w0 w : World} {T : List Nat} {L R : Hp} {x : DiskR} (hs : St w0 T (L ++ R) w) (h : ownDiskR x L) : ∃ L1 L2 L3, St w0 T (L1 ++ (L2 ++ (L3 ++ R))) w ∧ OwnN encFileR ownFileR 58 (.slice x.Files.A x.Files.n x.Files.c) x.Files.xs L1 ∧ OwnF encLink 82 (.slice x.Kept.A x.Kept.n x.Kept.c) x.Kept.xs L2 ∧ OwnF encTurn 60 (.slice x.Turns.A x.Turns.n x.Turns.c) x.Turns.xs L3 := by
  obtain ⟨L1, L2, L3, rfl, h⟩ := h
  exact ⟨L1, L2, L3, by simpa only [List.append_assoc] using hs, h⟩
theorem ownDiskR.len {x : DiskR} {L : Hp} (h : ownDiskR x L) : x.Files.xs.length = x.Files.n ∧ x.Kept.xs.length = x.Kept.n ∧ x.Turns.xs.length = x.Turns.n := by
  obtain ⟨L1, L2, L3, rfl, o1, o2, o3⟩ := h
  exact ⟨(OwnN.len_ o1), (OwnF.len_ o2), (OwnF.len_ o3)⟩
theorem ownDiskR.ok {B : Nat} {w : World} {x : DiskR} {L : Hp} (h : ownDiskR x L) (hh : ∀ p, p ∈ L → w.heap[p.1]? = some p.2) (h2 : smDisk B x.dat) : okDiskR B w x := by
  obtain ⟨L1, L2, L3, rfl, o1, o2, o3⟩ := h
  simp only [List.mem_append] at hh
  exact ⟨OwnN.ok o1 (fun p hp => hh p (.inl hp)) (fun y Li hy h3 hl => h3.ok hl (h2.2.1 _ (List.mem_map_of_mem hy))), OwnN.cap o1, (by have := OwnN.len_ o1; have h3 := h2.1; simp only [DiskR.dat, smDisk, List.length_map] at h3; omega), SlF.ofOwn o2 (fun p hp => hh p (.inr (.inl hp))), OwnF.cap o2, (by have := OwnF.len_ o2; have h3 := h2.2.2.1; simp only [DiskR.dat, smDisk] at h3; omega), (h2.2.2.2.1), SlF.ofOwn o3 (fun p hp => hh p (.inr (.inr (hp)))), OwnF.cap o3, (by have := OwnF.len_ o3; have h3 := h2.2.2.2.2.1; simp only [DiskR.dat, smDisk] at h3; omega), (h2.2.2.2.2.2)⟩
def markDisk (k : Int) (x : DiskR) : DiskR := ⟨x.Room, x.Fuse, x.Next, { x.Files with xs := mrks mkEFile cntEFile k x.Files.xs }, { x.Kept with xs := marks mkLink 2 (k + cnts cntEFile x.Files.xs) x.Kept.xs.length }, { x.Turns with xs := marks mkTurn 4 ((k + cnts cntEFile x.Files.xs) + 2 * (x.Kept.xs.length : Int)) x.Turns.xs.length }⟩
def endDisk (k : Int) (x : DiskR) : Int := (((k + cnts cntEFile x.Files.xs) + 2 * (x.Kept.xs.length : Int)) + 4 * (x.Turns.xs.length : Int))
theorem endDisk_le (k : Int) (x : DiskR) : endDisk k x ≤ k + 64 * (totDisk x.dat : Int) := by
  have h_Files := cnts_le (c := cntEFile) (f := totFile) (g := FileR.dat) cntEFile_le x.Files.xs
  have t_Kept := tots_len totLink x.Kept.xs
  have t_Turns := tots_len totTurn x.Turns.xs
  simp only [endDisk, DiskR.dat, totDisk]
  omega
theorem endDisk_ge (k : Int) (x : DiskR) : k ≤ endDisk k x := by
  have h_Files := cnts_nonneg (c := cntEFile) cntEFile_ge x.Files.xs
  simp only [endDisk]
  omega
theorem markDisk_sm {k : Int} {x : DiskR} (h : smDisk 549755813888 x.dat) : smDisk 549755813888 (markDisk k x).dat := ⟨(by have h3 := h.1; simpa [smDisk, markDisk, DiskR.dat, mrks_len] using h3), (fun y hy => by obtain ⟨z, hz, rfl⟩ := List.mem_map.1 hy; exact mrks_all (P := fun x => smFile 549755813888 x.dat) (fun _ _ h9 => mkEFile_sm h9) (fun x hx => h.2.1 _ (List.mem_map_of_mem hx)) _ hz), (by have h3 := h.2.2.1; simpa [markDisk, DiskR.dat, marks_len] using h3), (marks_mem mkLink_sm), (by have h3 := h.2.2.2.2.1; simpa [markDisk, DiskR.dat, marks_len] using h3), (marks_mem mkTurn_sm)⟩
structure DiskOpR where
  Kind : Int
  Name : ByteArray
  To : ByteArray
  Data : SlD UInt8
def encDiskOpR : Enc DiskOpR := ⟨4, fun d => [i64 d.Kind, .string d.Name, .string d.To, .slice d.Data.A d.Data.n d.Data.c], ⟨0, { data := #[] }, { data := #[] }, ⟨none, 0, 0, []⟩⟩, fun _ => rfl, fun x v h => by simp at h; rcases h with rfl | rfl | rfl | rfl <;> rfl, by decide⟩
structure okDiskOpR (B : Nat) (w : World) (x : DiskOpR) : Prop where
  Name_z : x.Name.size ≤ B
  To_z : x.To.size ≤ B
  Data : SlF encB w x.Data.A x.Data.n x.Data.xs
  Data_c : x.Data.n ≤ x.Data.c
  Data_n : x.Data.n ≤ B
structure sepDiskOpR (T : List Nat) (x : DiskOpR) : Prop where
  Data : 0 < x.Data.n → (adr x.Data.A).block ∉ T
theorem okDiskOpR.st0 {B : Nat} {w0 w : World} {L : Hp} {x : DiskOpR} (h : okDiskOpR B w0 x) (hs : St w0 [] L w) : okDiskOpR B w x := ⟨h.Name_z, h.To_z, SlF.st0 h.Data hs, h.Data_c, h.Data_n⟩
theorem okDiskOpR.st {B : Nat} {w0 w : World} {T : List Nat} {L : Hp} {x : DiskOpR} (h : okDiskOpR B w0 x) (hs : St w0 T L w) (hp : sepDiskOpR T x) : okDiskOpR B w x := ⟨h.Name_z, h.To_z, SlF.st h.Data hs hp.Data, h.Data_c, h.Data_n⟩
theorem okDiskOpR.le {B B' : Nat} {w : World} {x : DiskOpR} (h : okDiskOpR B w x) (hB : B ≤ B') : okDiskOpR B' w x := ⟨Nat.le_trans h.Name_z hB, Nat.le_trans h.To_z hB, h.Data, h.Data_c, Nat.le_trans h.Data_n hB⟩
def DiskOpR.dat (x : DiskOpR) : DiskOpD := ⟨x.Kind, x.Name, x.To, x.Data.xs⟩
def smDiskOp (B : Nat) (d : DiskOpD) : Prop := (d.Name.size ≤ B) ∧ (d.To.size ≤ B) ∧ (d.Data.length ≤ B)
theorem okDiskOpR.to {B B' : Nat} {w : World} {x : DiskOpR} (h : okDiskOpR B w x) (h2 : smDiskOp B' x.dat) : okDiskOpR B' w x := ⟨h2.1, h2.2.1, h.Data, h.Data_c, (by have := h.Data.len; have h3 := h2.2.2; simp only [smDiskOp, DiskOpR.dat] at h3; omega)⟩
def totDiskOp (d : DiskOpD) : Nat := d.Name.size + d.To.size + d.Data.length
theorem totDiskOp_sm {B : Nat} {d : DiskOpD} (h : totDiskOp d ≤ B) : smDiskOp B d := by
  simp only [totDiskOp] at h
  unfold smDiskOp
  exact ⟨(by omega), (by omega), (by omega)⟩
def ownDiskOpR (x : DiskOpR) (L : Hp) : Prop := OwnF encB 5 (.slice x.Data.A x.Data.n x.Data.c) x.Data.xs L
theorem ownDiskOpR.len {x : DiskOpR} {L : Hp} (h : ownDiskOpR x L) : x.Data.xs.length = x.Data.n := by
  exact (OwnF.len_ h)
theorem ownDiskOpR.ok {B : Nat} {w : World} {x : DiskOpR} {L : Hp} (h : ownDiskOpR x L) (hh : ∀ p, p ∈ L → w.heap[p.1]? = some p.2) (h2 : smDiskOp B x.dat) : okDiskOpR B w x := by
  exact ⟨(h2.1), (h2.2.1), SlF.ofOwn h (fun p hp => hh p hp), OwnF.cap h, (by have := OwnF.len_ h; have h3 := h2.2.2; simp only [DiskOpR.dat, smDiskOp] at h3; omega)⟩
def markDiskOp (k : Int) (x : DiskOpR) : DiskOpR := ⟨x.Kind, x.Name, x.To, { x.Data with xs := marks ub 1 k x.Data.xs.length }⟩
def endDiskOp (k : Int) (x : DiskOpR) : Int := (k + 1 * (x.Data.xs.length : Int))
theorem endDiskOp_le (k : Int) (x : DiskOpR) : endDiskOp k x ≤ k + 64 * (totDiskOp x.dat : Int) := by
  simp only [endDiskOp, DiskOpR.dat, totDiskOp]
  omega
theorem endDiskOp_ge (k : Int) (x : DiskOpR) : k ≤ endDiskOp k x := by
  simp only [endDiskOp]
  omega
theorem mixed : Tryz.prog.follows .mixedOrders = true := by kernel_rfl
theorem k0_ (n lo hi : Int) (w : World) :
    Calls Tryz.prog 60 #[i64 n, i64 lo, i64 hi] w fun e w' => e = .returned (.bool (within n lo hi)) ∧ St w [] [] w' := by
 refine enter 15 Tryz.func60 rfl Tryz.ntmps60 rfl rfl ?_
 have hs1 := St.init w
 refine WC.r1 hs1 [] rfl (WC.sr (WL.r 4 hs1 [] rfl (WL.pA tbk 3 Acts.nil hs1 [] rfl rfl rfl rfl (fun g_ => trivial) (WL.r 1 hs1 [] rfl (WL.nil (WC.ret (retV1 rfl (resV.tmp rfl) ?_)))))))
 refine ⟨congrArg Ending.returned ?_, hs1.nil⟩
 rfl
theorem k1_ (A_a : Option Addr) (n_a c_a : Nat) (a : List UInt8) (left : Int) (w : World) (f_a : SlF encB w A_a n_a a) (h1 : 0 ≤ left) (h2 : left ≤ 1048576) (h3 : n_a ≤ 9223372036854775807) :
    Calls Tryz.prog 18 #[.slice A_a n_a c_a, i64 left] w fun e w' => e = .returned (.int .i64 (szR left n_a)) ∧ St w [] [] w' := by
 refine enter 12 Tryz.func18 rfl Tryz.ntmps18 rfl rfl ?_
 have hs1 := St.init w
 refine WC.r1 hs1 [] rfl (WC.r1 hs1 [] rfl (WC.seq (fun K2 hK2 => WC.r1 hs1 [] rfl ?_)))
 refine WC.cD rfl (fun qh3 => ?_) (fun qh3 => ?_)
 ·refine WC.r1 hs1 [] rfl (WC.ret (tkR ?_))
  clear hK2
  refine rtv rfl rfl hs1 ?_
  simp only [szR]; rw [if_neg (by omega)]
 refine WC.skip (hK2 _ _ (WC.r1 hs1 [] rfl (WC.ret (rtv rfl rfl hs1 ?_))))
 simp only [szR]; rw [if_pos (by omega)]
theorem k2_ (A_a : Option Addr) (n_a c_a : Nat) (a : List UInt8) (w : World) (f_a : SlF encB w A_a n_a a) (hn : n_a ≤ 1099511627776) :
    Calls Tryz.prog 31 #[.slice A_a n_a c_a] w fun e w' => ∃ A c L1, e = .returned (.slice A (a).length c) ∧ St w [] L1 w' ∧ OwnF encB 5 (.slice A (a).length c) (a) L1 := by
 refine enter 22 Tryz.func31 rfl Tryz.ntmps31 rfl rfl ?_
 have hs1 := St.init w
 refine WC.r1 hs1 [] rfl (WC.sr (WL.r 2 hs1 [] rfl (WL.makeF (F := encB) hs1 Tryz.underlying27 inf5 rfl rfl rfl rfl rfl rfl rfl rfl rfl ?_ ?_ (fun A5 c6 L2 whs3 hs3 ho4 => ?_))))
 · have e_ : Tryz.t5.bytes = 1 := rfl
   rw [e_]; omega
 · omega
 refine WL.r 1 hs3 [] rfl (WL.nil (WC.seq (fun K7 hK7 => WC.r1 hs3 [] rfl (WC.block ?_))))
 refine WC.lO [0, 2] rfl hs3 (fun k_ f L_ => ∃ (i : Nat) (A8 : Option Addr) (c9 : Nat), k_ = n_a - i ∧ (i ≤ n_a) ∧ OwnF encB 5 (.slice A8 (n_a) c9) (fillG encB a i) L_ ∧ Sub [(3, .slice A8 (n_a) c9), (4, .int .i64 i)] f) (((fun (i : Nat) => n_a - i) (0))) ?_ ?_
 ·refine ⟨0, _, _, rfl, ?_, (fillG_zero f_a.len ▸ ho4), ⟨rfl, rfl, trivial⟩⟩
  · exact Nat.zero_le _
 clear hs3
 rintro _ f w L10 ⟨i, A8, c9, rfl, p0, ho11, hG⟩ hF hs12
 refine WC.sub _ (hG.app hF) ?_
 clear hG hF
 refine WC.seq (fun K13 hK13 => WC.r1 hs12 [] rfl ?_)
 refine WC.cq rfl (fun h14 qh14 => ?_) (fun h14 qh14 => ?_)
 ·refine WC.skip (hK13 _ _ (WC.seq (fun K15 hK15 => WC.block (WC.region (WL.r 4 hs12 [] rfl ?_)))))
  refine WL.val rfl rfl rfl (Run.idxN Tryz.runUnderlying27 Tryz.sizeOf5 rfl rfl rfl ?_ ?_ ?_) ?_
  · exact SlF.some_ (SlF.st0 f_a hs12)
  · omega
  · omega
  refine WL.val rfl rfl rfl (Run.load Tryz.isAgg5 rfl rfl (SlF.one1 (SlF.st0 f_a hs12) ?_ rfl)) ?_
  · omega
  refine WL.val rfl rfl rfl (Run.idxN Tryz.runUnderlying27 Tryz.sizeOf5 rfl rfl rfl ?_ ?_ ?_) ?_
  · exact SlF.some_ (SlF.ofOwn ho11 (hs12.ow L10))
  · omega
  · omega
  refine WL.storeF1 (x' := _) hs12 ho11 Tryz.sizeOf5 rfl rfl rfl rfl rfl rfl rfl rfl rfl ?_ rfl (fun L16 whs17 hs17 ho18 _ => ?_)
  · omega
  refine WL.nil (hK15 _ _ (WC.region (WL.r 3 hs17 [] rfl (WL.nil (tkN ?_)))))
  rw [fillG_set (i := i) (by rw [f_a.len]; omega) (by simp) (by simp)] at ho18
  refine ⟨sbF rfl, _, hs17, _, ?_, i + 1, _, _, rfl, ?_, ho18, ⟨rfl, rfl, trivial⟩⟩
  · omega
  · omega
 refine WC.exit (hK7 _ _ (WC.r1 hs12 [] rfl (WC.ret (retV1 rfl (resV.tmp rfl) ?_))))
 have hx_ := OwnF.eqOf (xs := a) ho11 (fillG_full (by rw [f_a.len]; omega))
 have hy_ := ho11
 rw [hx_] at hy_
 obtain ⟨A_, c_, hz_⟩ := hy_.shape
 exact ⟨A_, c_, _, congrArg Ending.returned hz_, (St.keep1 hs12), hz_ ▸ hy_⟩
theorem k3_ (A_a : Option Addr) (n_a c_a : Nat) (a : List UInt8) (A_b : Option Addr) (n_b c_b : Nat) (b : List UInt8) (w : World) (f_a : SlF encB w A_a n_a a) (f_b : SlF encB w A_b n_b b) (hn : n_a ≤ 1099511627776) (hab : a = b) :
    Calls Tryz.prog 40 #[.slice A_a n_a c_a, .slice A_b n_b c_b] w fun e w' => e = .returned (.bool true) ∧ St w [] [] w' := by
 subst hab
 obtain rfl : n_a = n_b := f_a.len.symm.trans f_b.len
 refine enter 26 Tryz.func40 rfl Tryz.ntmps40 rfl rfl ?_
 have hs1 := St.init w
 refine WC.r1 hs1 [] rfl (WC.seq (fun K2 hK2 => WC.r1 hs1 [] rfl (WC.condF rfl (by simp) (WC.skip (hK2 _ _ (WC.seq (fun K4 hK4 => WC.r1 hs1 [] rfl ?_)))))))
 refine WC.block (WC.lS [0, 1, 10] rfl hs1 (fun k_ f w' => ∃ (i : Nat), k_ = n_a - i ∧ (i ≤ n_a) ∧ Sub [(5, .int .i64 i)] f) ((fun (i : Nat) => n_a - i) (0)) ?_ ?_)
 ·refine ⟨0, rfl, ?_, ⟨rfl, trivial⟩⟩
  · exact Nat.zero_le _
 clear hs1
 rintro _ f w ⟨i, rfl, p0, hG⟩ hF hs5
 refine WC.sub _ (hG.app hF) ?_
 clear hG hF
 refine WC.seq (fun K6 hK6 => WC.r1 hs5 [] rfl ?_)
 refine WC.cD rfl (fun qh7 => ?_) (fun qh7 => ?_)
 ·refine WC.skip (hK6 _ _ (WC.seq (fun K8 hK8 => WC.block (WC.sq1 hs5 (WQ.r 2 [] rfl ?_)))))
  refine WQ.val rfl rfl rfl (fun w_ hs_ => (Run.idxN Tryz.runUnderlying27 Tryz.sizeOf5 rfl rfl rfl ?_ ?_ ?_)) ?_
  · exact SlF.some_ (SlF.st0 f_a (hs_ : St _ _ _ _))
  · omega
  · omega
  refine WQ.val rfl rfl rfl (fun w_ hs_ => (Run.load Tryz.isAgg5 rfl rfl (SlF.one1 (SlF.st0 f_a (hs_ : St _ _ _ _)) ?_ rfl))) ?_
  · omega
  refine WQ.r 2 [] rfl ?_
  refine WQ.val rfl rfl rfl (fun w_ hs_ => (Run.idxN Tryz.runUnderlying27 Tryz.sizeOf5 rfl rfl rfl ?_ ?_ ?_)) ?_
  · exact SlF.some_ (SlF.st0 f_b (hs_ : St _ _ _ _))
  · omega
  · omega
  refine WQ.val rfl rfl rfl (fun w_ hs_ => (Run.load Tryz.isAgg5 rfl rfl (SlF.one1 (SlF.st0 f_b (hs_ : St _ _ _ _)) ?_ rfl))) ?_
  · omega
  refine WQ.r 1 [] rfl (WQ.nil (fun _ (hs9 : St _ _ _ _) => WC.condF rfl (by simp) (WC.skip (hK8 _ _ (WC.region (WL.r 3 hs9 [] rfl (WL.nil ?_)))))))
  refine tkN (⟨sbF rfl, hs9, _, ?_, i + 1, rfl, ?_, ⟨rfl, trivial⟩⟩)
  · omega
  · omega
 refine WC.exit (hK4 _ _ (WC.r1 hs5 [] rfl (WC.ret (rtv rfl rfl hs5 ?_))))
 rfl
theorem k4_ (v_a : Value) (a : List UInt8) (L_a : Hp) (k : Int) (w : World) (o_a : OwnF encB 5 v_a a L_a) (h_a : Hh w L_a) (h1 : 0 ≤ k) (h2 : k ≤ 1099511627776) (h3 : a.length ≤ 1099511627776) :
    Calls Tryz.prog 44 #[v_a, i64 k] w fun e w' => ∃ L1, e = .returned (.int .i64 (k + 1 * a.length)) ∧ St w (L_a.map (·.1)) L1 w' ∧ OwnF encB 5 v_a (marks ub 1 k a.length) L1 := by
 obtain ⟨A_a, c_a, rfl⟩ := o_a.shape
 refine enter 20 Tryz.func44 rfl Tryz.ntmps44 rfl rfl ?_
 have hs1 := St.lent1 w L_a o_a h_a
 refine WC.r1 hs1 [] rfl (WC.seq (fun K2 hK2 => WC.r1 hs1 [] rfl (WC.block ?_)))
 refine WC.lO [4] rfl hs1 (fun k_ f L_ => ∃ (i : Nat) (q : Int), k_ = a.length - i ∧ (i ≤ a.length) ∧ (q = k + 1 * i) ∧ OwnF encB 5 (.slice A_a (a.length) c_a) (fillM ub 1 k a i) L_ ∧ Sub [(0, .slice A_a (a.length) c_a), (5, .int .i64 i), (1, .int .i64 q)] f) (((fun (i : Nat) (q : Int) => a.length - i) (0) (k))) ?_ ?_
 ·refine ⟨0, k, rfl, ?_, ?_, (fillM_zero.symm ▸ o_a), ⟨rfl, rfl, rfl, trivial⟩⟩
  · exact Nat.zero_le _
  · simp
 clear hs1
 rintro _ f w L5 ⟨i, q, rfl, p0, p1, ho6, hG⟩ hF hs7
 refine WC.sub _ (hG.app hF) ?_
 clear hG hF
 have hfl : (fillM ub 1 k a i).length = a.length := fillM_len p0
 have hq : k + ((1 : Nat) : Int) * (i : Int) = q := by omega
 refine WC.seq (fun K8 hK8 => WC.r1 hs7 [] rfl ?_)
 refine WC.cq rfl (fun h9 qh9 => ?_) (fun h9 qh9 => ?_)
 ·refine WC.skip (hK8 _ _ (WC.seq (fun K10 hK10 => WC.block (WC.sr (WL.r 4 hs7 [] rfl ?_)))))
  refine WL.val rfl rfl rfl (Run.idxN Tryz.runUnderlying27 Tryz.sizeOf5 rfl rfl rfl ?_ ?_ ?_) ?_
  · exact SlF.some_ (SlF.ofOwn ho6 (hs7.ow L5))
  · omega
  · omega
  refine WL.storeF1 (x' := _) hs7 ho6 Tryz.sizeOf5 rfl rfl rfl rfl rfl rfl rfl rfl rfl ?_ (by first | rfl | (rw [gat_set (by (try simp only [List.length_set]); omega) rfl]; rfl)) (fun L11 whs12 hs12 ho13 _ => ?_)
  · omega
  refine WL.nil (WC.region (WL.r 3 hs12 [] rfl (WL.nil (hK10 _ _ (WC.region (WL.r 3 hs12 [] rfl (WL.nil ?_)))))))
  refine tkN ?_
  try simp only [List.set_set] at ho13
  rw [fillM_set (i := i) (by omega) (by rw [hq]) (by simp)] at ho13
  refine ⟨sbF rfl, _, hs12, _, ?_, i + 1, _, rfl, ?_, ?_, ho13, ⟨rfl, rfl, rfl, trivial⟩⟩
  · omega
  · omega
  · omega
 refine WC.exit (hK2 _ _ (WC.r1 hs7 [] rfl (WC.ret (retV1 rfl (resV.tmp rfl) ?_))))
 have hx_ := OwnF.eqOf (xs := marks ub 1 k a.length) ho6 (fillM_full (by omega))
 have hi_ : i = a.length := by omega
 refine ⟨_, ?_, (St.keep1 hs7), hx_ ▸ ho6⟩
 rw [p1, hi_]
theorem k5_ (A_a : Option Addr) (n_a c_a : Nat) (a : List UInt8) (k : Int) (m : Nat) (w : World) (f_a : SlF encB w A_a n_a a) (hm : a = marks ub 1 k m) (h1 : 0 ≤ k) (h2 : k ≤ 1099511627776) (h3 : n_a ≤ 1099511627776) :
    Calls Tryz.prog 77 #[.slice A_a n_a c_a, i64 k] w fun e w' => e = .returned (.int .i64 (k + 1 * m)) ∧ St w [] [] w' := by
 have hnm : n_a = m := by rw [← f_a.len, hm, marks_len]
 subst hnm
 refine enter 22 Tryz.func77 rfl Tryz.ntmps77 rfl rfl ?_
 have hs1 := St.init w
 refine WC.r1 hs1 [] rfl (WC.seq (fun K2 hK2 => WC.r1 hs1 [] rfl (WC.block ?_)))
 refine WC.lS [0] rfl hs1 (fun k_ f w' => ∃ (i : Nat) (q : Int), k_ = n_a - i ∧ (i ≤ n_a) ∧ (q = k + 1 * i) ∧ Sub [(5, .int .i64 i), (1, .int .i64 q)] f) ((fun (i : Nat) (q : Int) => n_a - i) (0) (k)) ?_ ?_
 ·refine ⟨0, k, rfl, ?_, ?_, ⟨rfl, rfl, trivial⟩⟩
  · exact Nat.zero_le _
  · simp
 clear hs1
 rintro _ f w ⟨i, q, rfl, p0, p1, hG⟩ hF hs3
 refine WC.sub _ (hG.app hF) ?_
 clear hG hF
 have hq : k + ((1 : Nat) : Int) * (i : Int) = q := by omega
 refine WC.seq (fun K4 hK4 => WC.r1 hs3 [] rfl ?_)
 refine WC.cD rfl (fun qh5 => ?_) (fun qh5 => ?_)
 ·have hg : gat encB a i = ub q := by rw [hm, marks_gat (by omega), hq]
  refine WC.skip (hK4 _ _ (WC.seq (fun K6 hK6 => WC.block (WC.seq (fun K7 hK7 => WC.sr (WL.r 2 hs3 [] rfl ?_))))))
  refine WL.val rfl rfl rfl (Run.idxN Tryz.runUnderlying27 Tryz.sizeOf5 rfl rfl rfl ?_ ?_ ?_) ?_
  · exact SlF.some_ (SlF.st0 f_a hs3)
  · omega
  · omega
  refine WL.val rfl rfl rfl (Run.load Tryz.isAgg5 rfl rfl (SlF.one1 (SlF.st0 f_a hs3) ?_ rfl)) ?_
  · omega
  refine WL.r 3 hs3 [] rfl (WL.nil (WC.condF rfl (by simp [hg]) (WC.skip (hK7 _ _ (WC.region (WL.r 3 hs3 [] rfl (WL.nil ?_)))))))
  refine hK6 _ _ (WC.region (WL.r 3 hs3 [] rfl (WL.nil (tkN ?_))))
  refine ⟨sbF rfl, hs3, _, ?_, i + 1, _, rfl, ?_, ?_, ⟨rfl, rfl, trivial⟩⟩
  · omega
  · omega
  · omega
 refine WC.exit (hK2 _ _ (WC.r1 hs3 [] rfl (WC.ret (rtv rfl rfl hs3 ?_))))
 rw [p1, show i = n_a from by omega]
theorem WC.jPK {P : Program} {n : Nat} {x : Code} {K : Fr → World → Prop} {Q : Kont} {f F : Fr} {w0 w : World} {T : List Nat} {b : Nat} {o0 : Obj} {L0 R : Hp} (is : List Nat) (hF : rstr is f = some F) (hst : St w0 T ((b, o0) :: (L0 ++ R)) w) (X : Obj → Hp → Prop)
  (hx : WC P n x (thenK (fun f' w' => ∃ o L1, St w0 T ((b, o) :: (L1 ++ R)) w' ∧ X o L1 ∧ Sub F f') Q) f w) (hy : ∀ o L1 w', X o L1 → St w0 T ((b, o) :: (L1 ++ R)) w' → ∀ f', Sub F f' → K f' w') : WC P n x (thenK K Q) f w :=
 hx.mono fun e f' w' h => by
  cases e
  case normal =>
   obtain ⟨o, L1, h1, h2, h3⟩ := h
   exact hy o L1 w' h2 h1 f' h3
  all_goals exact h
theorem nthL_eq : ∀ (L : Hp) (i : Nat), nthL L i = L[i]?
 | [], _ => rfl
 | _ :: _, 0 => rfl
 | _ :: L, i + 1 => (nthL_eq L i).trans (by simp)
section
variable {P : Program} {w0 w : World} {T : List Nat} {L : Hp} {n : Nat} {ol : List Oper} {o : Oper} {rest : List Oper} {f : Fr} {d : Nat} {K : Fr → World → Prop}
theorem St.neq (h : St w0 T L w) {i j : Nat} {p q : Nat × Obj} (hi : nthL L i = some p) (hj : nthL L j = some q) (hij : i ≠ j) : p.1 ≠ q.1 := by
 intro he
 rw [nthL_eq] at hi hj
 have h1 : (L.map (·.1))[i]? = some p.1 := by rw [List.getElem?_map, hi]; rfl
 have h2 : (L.map (·.1))[j]? = some q.1 := by rw [List.getElem?_map, hj]; rfl
 exact hij ((List.getElem?_inj (List.getElem?_eq_some_iff.1 h1).1 h.nodup).1 (h1.trans (he ▸ h2.symm)))
end
def BM (es : Array MapEntry) (q : Int → Bool) : Prop :=
 (∀ x ∈ es.toList, ∃ n v, x.key = .int .i64 n ∧ x.val = .bool v ∧ q n = v) ∧ (∀ n, q n = true → ∃ x ∈ es.toList, x.key = .int .i64 n)
theorem BM.nil : BM #[] (fun _ => false) := ⟨by simp, by simp⟩
theorem BM.keys {es : Array MapEntry} {q : Int → Bool} (h : BM es q) : ∀ x ∈ es.toList, MapKept.IsKey (.int .i64) x.key := by
 intro x hx
 obtain ⟨n, v, hk, _, _⟩ := h.1 x hx
 rw [hk]; rfl
theorem BM.put {es : Array MapEntry} {q : Int → Bool} (h : BM es q) {n : Int} {v : Bool} {clock : Nat} (hn : ∀ x ∈ es.toList, x.key ≠ .int .i64 n) : BM (es.push { key := .int .i64 n, val := .bool v, born := clock }) (fun m => if m = n then v else q m) := by
 refine ⟨fun x hx => ?_, fun m hm => ?_⟩
 ·simp only [Array.toList_push, List.mem_append, List.mem_singleton] at hx
  rcases hx with hx | rfl
  ·obtain ⟨m, u, hk, hv, hq⟩ := h.1 x hx
   refine ⟨m, u, hk, hv, ?_⟩
   show (if m = n then v else q m) = u
   rw [if_neg (fun e => hn x hx (by rw [hk, e]))]; exact hq
  ·exact ⟨n, v, rfl, rfl, by simp⟩
 ·by_cases he : m = n
  ·subst he
   exact ⟨{ key := .int .i64 m, val := .bool v, born := clock }, by simp, rfl⟩
  ·simp only [if_neg he] at hm
   obtain ⟨x, hx, hk⟩ := h.2 m hm
   exact ⟨x, by simp [hx], hk⟩
theorem BM.set {es : Array MapEntry} {q : Int → Bool} (h : BM es q) {n : Int} {v : Bool} {j : Nat} {e : MapEntry} (hj : es[j]? = some e) (hk : e.key = .int .i64 n) (hu : (es.toList.map (·.key)).Nodup) : BM (es.modify j fun e => { e with key := .int .i64 n, val := .bool v }) (fun m => if m = n then v else q m) := by
 have hmem : ∀ x, x ∈ (es.modify j fun e => { e with key := .int .i64 n, val := .bool v }).toList ↔ ∃ i y, es[i]? = some y ∧ x = if i = j then { y with key := .int .i64 n, val := .bool v } else y := by
  intro x
  rw [Array.mem_toList_iff, Array.mem_iff_getElem?]
  constructor
  ·rintro ⟨i, hi⟩
   rw [Array.getElem?_modify] at hi
   by_cases hij : j = i
   ·rw [if_pos hij] at hi
    obtain ⟨y, hy, rfl⟩ := Option.map_eq_some_iff.1 hi
    exact ⟨i, y, hy, by rw [if_pos hij.symm]⟩
   ·rw [if_neg hij] at hi
    exact ⟨i, x, hi, by rw [if_neg (fun h => hij h.symm)]⟩
  ·rintro ⟨i, y, hy, rfl⟩
   refine ⟨i, ?_⟩
   rw [Array.getElem?_modify]
   by_cases hij : j = i
   ·subst hij; rw [if_pos rfl, hy, if_pos rfl]; rfl
   ·rw [if_neg hij, hy, if_neg (fun h => hij h.symm)]
 have huniq : ∀ (i : Nat) (y : MapEntry), es[i]? = some y → y.key = .int .i64 n → i = j := by
  intro i y hy hky
  have e1 : (es.toList.map (·.key))[i]? = some (.int .i64 n) := by rw [List.getElem?_map, Array.getElem?_toList, hy, ← hky]; rfl
  have e2 : (es.toList.map (·.key))[j]? = some (.int .i64 n) := by rw [List.getElem?_map, Array.getElem?_toList, hj, ← hk]; rfl
  exact (List.getElem?_inj (List.getElem?_eq_some_iff.1 e1).1 hu).1 (e1.trans e2.symm)
 refine ⟨fun x hx => ?_, fun m hm => ?_⟩
 ·obtain ⟨i, y, hy, rfl⟩ := (hmem x).1 hx
  by_cases hij : i = j
  ·rw [if_pos hij]; exact ⟨n, v, rfl, rfl, by simp⟩
  ·rw [if_neg hij]
   obtain ⟨m, u, hk', hv, hq⟩ := h.1 y (by rw [← Array.getElem?_toList] at hy; exact List.mem_of_getElem? hy)
   refine ⟨m, u, hk', hv, ?_⟩
   show (if m = n then v else q m) = u
   rw [if_neg (fun he => hij (huniq i y hy (by rw [hk', he])))]; exact hq
 ·by_cases he : m = n
  ·subst he
   exact ⟨_, (hmem _).2 ⟨j, e, hj, rfl⟩, by rw [if_pos rfl]⟩
  ·simp only [if_neg he] at hm
   obtain ⟨x, hx, hkx⟩ := h.2 m hm
   obtain ⟨i, hi⟩ := List.mem_iff_getElem?.1 hx
   rw [Array.getElem?_toList] at hi
   by_cases hij : i = j
   ·subst hij
    rw [hj] at hi; cases hi
    rw [hk] at hkx; cases hkx; exact absurd rfl he
   ·exact ⟨x, (hmem x).2 ⟨i, x, hi, by rw [if_neg hij]⟩, hkx⟩
section
variable {P : Program} {w0 w : World} {T : List Nat} {L : Hp} {n : Nat} {ol : List Oper} {o : Oper} {rest : List Oper} {f : Fr} {d : Nat} {K : Fr → World → Prop}
theorem Run.addS {t t' : TypeId} {x y : Operand} {a b : ByteArray} (ho : o.op = .binOp .add t x y t') (hx : ev f x = some (.string a)) (hy : ev f y = some (.string b)) (hb : a.size + b.size ≤ 9223372036854775807) : Run P o f w (.value (.string (a ++ b))) w := fun ρ hρ => by
 have h : ¬ (((a.size + b.size : Nat) : Int) > IntKind.i64.max) := by
  have e : IntKind.i64.max = 9223372036854775807 := rfl
  rw [e]; omega
 simp only [Int.natCast_add] at h
 simp [execOp, ho, hρ _ _ hx, hρ _ _ hy, eqGuard, binOp, Op.stringOp, h]
 omega
end
theorem less_cmp : ∀ x y : List UInt8, Op.bytesLess x y = decide (Go.Lib.compareBytes x y < 0)
 | [], [] => rfl
 | _ :: _, [] => by simp [Op.bytesLess, Go.Lib.compareBytes]
 | [], _ :: _ => by simp [Op.bytesLess, Go.Lib.compareBytes]
 | a :: x, b :: y => by
  have ih := less_cmp x y
  unfold Op.bytesLess Go.Lib.compareBytes
  by_cases h1 : a < b
  ·simp [h1]
  ·by_cases h2 : b < a
   ·have : ¬ a = b := by rintro rfl; exact UInt8.lt_irrefl _ h2
    simp [h1, h2, this]
   ·have : a = b := UInt8.le_antisymm (UInt8.not_lt.1 h2) (UInt8.not_lt.1 h1)
    subst this
    simp [h1, ih]
theorem cb_refl : ∀ x : List UInt8, Go.Lib.compareBytes x x = 0
 | [] => rfl
 | a :: x => by unfold Go.Lib.compareBytes; rw [if_neg (UInt8.lt_irrefl a), if_neg (UInt8.lt_irrefl a)]; exact cb_refl x
theorem cb_zero : ∀ {x y : List UInt8}, Go.Lib.compareBytes x y = 0 → x = y
 | [], [], _ => rfl
 | _ :: _, [], h => by simp [Go.Lib.compareBytes] at h
 | [], _ :: _, h => by simp [Go.Lib.compareBytes] at h
 | a :: x, b :: y, h => by
  unfold Go.Lib.compareBytes at h
  by_cases h1 : a < b
  ·simp [h1] at h
  ·by_cases h2 : b < a
   ·simp [h1, h2] at h
   ·have e : a = b := UInt8.le_antisymm (UInt8.not_lt.1 h2) (UInt8.not_lt.1 h1)
    rw [if_neg h1, if_neg h2] at h
    rw [e, cb_zero h]
theorem cb_swap : ∀ x y : List UInt8, Go.Lib.compareBytes x y = - Go.Lib.compareBytes y x
 | [], [] => rfl
 | _ :: _, [] => rfl
 | [], _ :: _ => rfl
 | a :: x, b :: y => by
  unfold Go.Lib.compareBytes
  by_cases h1 : a < b
  ·have h2 : ¬ b < a := fun h => UInt8.lt_irrefl _ (UInt8.lt_trans h1 h)
   simp [h1, h2]
  ·by_cases h2 : b < a
   ·simp [h1, h2]
   ·rw [if_neg h1, if_neg h2, if_neg h2, if_neg h1]; exact cb_swap x y
theorem cb_trans : ∀ {x y z : List UInt8}, Go.Lib.compareBytes x y < 0 → Go.Lib.compareBytes y z < 0 → Go.Lib.compareBytes x z < 0
 | [], [], _, h, _ => absurd h (by decide)
 | _ :: _, [], _, h, _ => absurd h (by simp [Go.Lib.compareBytes])
 | [], _ :: _, [], _, h => absurd h (by simp [Go.Lib.compareBytes])
 | [], _ :: _, _ :: _, _, _ => by simp [Go.Lib.compareBytes]
 | _ :: _, _ :: _, [], _, h => absurd h (by simp [Go.Lib.compareBytes])
 | a :: x, b :: y, c :: z, h1, h2 => by
  unfold Go.Lib.compareBytes at h1 h2 ⊢
  by_cases ab : a < b
  ·by_cases bc : b < c
   ·rw [if_pos (UInt8.lt_trans ab bc)]; decide
   ·rw [if_neg bc] at h2
    by_cases cb : c < b
    ·rw [if_pos cb] at h2; exact absurd h2 (by decide)
    ·have e : b = c := UInt8.le_antisymm (UInt8.not_lt.1 cb) (UInt8.not_lt.1 bc)
     subst e
     rw [if_pos ab]; decide
  ·rw [if_neg ab] at h1
   by_cases ba : b < a
   ·rw [if_pos ba] at h1; exact absurd h1 (by decide)
   ·have e : a = b := UInt8.le_antisymm (UInt8.not_lt.1 ba) (UInt8.not_lt.1 ab)
    subst e
    rw [if_neg ba] at h1
    by_cases bc : a < c
    ·rw [if_pos bc]; decide
    ·rw [if_neg bc] at h2 ⊢
     by_cases cb : c < a
     ·rw [if_pos cb] at h2; exact absurd h2 (by decide)
     ·rw [if_neg cb] at h2 ⊢
      exact cb_trans h1 h2
def cmpS (a b : ByteArray) : Int := Go.Lib.compareBytes a.data.toList b.data.toList
theorem cmpS_refl (a : ByteArray) : cmpS a a = 0 := cb_refl _
theorem cmpS_zero {a b : ByteArray} : cmpS a b = 0 ↔ a = b := by
 constructor
 ·intro h
  have := cb_zero h
  cases a; cases b
  simp_all [Array.toList_inj]
 ·rintro rfl; exact cmpS_refl _
theorem cmpS_swap (a b : ByteArray) : cmpS a b = - cmpS b a := cb_swap _ _
theorem cmpS_trans {a b c : ByteArray} (h1 : cmpS a b < 0) (h2 : cmpS b c < 0) : cmpS a c < 0 := cb_trans h1 h2
variable {P : Program} {f : Fr} {w : World} {o : Oper}
theorem Run.geqT {t t' : TypeId} {x y : Operand} {a b : ByteArray} (ho : o.op = .binOp .geq t x y t') (hx : ev f x = some (.string a)) (hy : ev f y = some (.string b)) : Run P o f w (.value (.bool (decide (0 ≤ cmpS a b)))) w := fun ρ hρ => by
 have e : decide (0 ≤ cmpS a b) = !Op.bytesLess a.toList b.toList := by
  rw [less_cmp, ByteArray.toList_eq, ByteArray.toList_eq]
  show decide (0 ≤ Go.Lib.compareBytes _ _) = !decide (Go.Lib.compareBytes a.data.toList b.data.toList < 0)
  rw [Bool.eq_iff_iff]; simp
 rw [e]
 simp [execOp, ho, hρ _ _ hx, hρ _ _ hy, eqGuard, binOp, Op.stringOp]
theorem Run.gtrT {t t' : TypeId} {x y : Operand} {a b : ByteArray} (ho : o.op = .binOp .gtr t x y t') (hx : ev f x = some (.string a)) (hy : ev f y = some (.string b)) : Run P o f w (.value (.bool (decide (0 < cmpS a b)))) w := fun ρ hρ => by
 have e : decide (0 < cmpS a b) = !(Op.bytesLess a.toList b.toList || (a.toList == b.toList)) := by
  rw [toList_inj, less_cmp, ByteArray.toList_eq, ByteArray.toList_eq]
  have h := cmpS_zero (a := a) (b := b)
  have e2 : Go.Lib.compareBytes a.data.toList b.data.toList = cmpS a b := rfl
  rw [e2, Bool.eq_iff_iff]
  simp only [decide_eq_true_eq, Bool.not_eq_true', Bool.or_eq_false_iff, decide_eq_false_iff_not, ← h]
  omega
 rw [e]
 simp [execOp, ho, hρ _ _ hx, hρ _ _ hy, eqGuard, binOp, Op.stringOp]
def AnyF {α : Type} (w0 : World) (F : Enc α) (et : Nat) (v : Value) (xs : List α) (L : Hp) : Prop := OwnF F et v xs L ∨ ∃ A n c, v = .slice A n c ∧ L = [] ∧ SlF F w0 A n xs
theorem AnyF.of {α : Type} {w0 : World} {F : Enc α} {et : Nat} {v : Value} {xs : List α} {L : Hp} (h : OwnF F et v xs L) : AnyF w0 F et v xs L := .inl h
theorem AnyF.rdo {α : Type} {w0 : World} {F : Enc α} {et : Nat} {A : Option Addr} {n c : Nat} {xs : List α} (f : SlF F w0 A n xs) : AnyF w0 F et (.slice A n c) xs [] := .inr ⟨A, n, c, rfl, rfl, f⟩
theorem AnyF.rd {α : Type} {w0 w : World} {F : Enc α} {et : Nat} {A : Option Addr} {n c : Nat} {xs : List α} {L L' : Hp} (h : AnyF w0 F et (.slice A n c) xs L) (hs : St w0 [] L' w) (hh : ∀ p, p ∈ L → w.heap[p.1]? = some p.2) : SlF F w A n xs := by
 rcases h with h | ⟨A', n', c', e, _, f⟩
 ·exact SlF.ofOwn h hh
 ·cases e; exact SlF.st0 f hs
theorem AnyF.cap {α : Type} {w0 : World} {F : Enc α} {et : Nat} {A : Option Addr} {n c : Nat} {xs : List α} {L : Hp} (h : AnyF w0 F et (.slice A n c) xs L) : xs.length = n := by
 rcases h with h | ⟨A', n', c', e, _, f⟩
 ·exact OwnF.len_ h
 ·cases e; exact f.len
theorem findI_map {α β : Type} {f : α → β} {p : β → Bool} {l : List α} : findI p (l.map f) = findI (fun x => p (f x)) l := by
 unfold findI
 rw [List.findIdx?_map]
 rfl
def nameOk (s : ByteArray) : Bool := isPlain s 16 ⟨#[46]⟩
def noName : ByteArray := ⟨#[]⟩
theorem firstIdx_dot (c : UInt8) : firstIdx ⟨#[46]⟩ c = if c = 46 then 0 else -1 := by
 unfold firstIdx
 have e : (List.range (ByteArray.mk #[46]).size) = [0] := rfl
 have e2 : (ByteArray.mk #[46])[0]! = 46 := rfl
 rw [e, List.find?_cons, e2]
 by_cases h : c = 46
 ·subst h; rfl
 ·rw [if_neg h, show ((46 : UInt8) == c) = false from by simpa using fun hh => h hh.symm]; rfl
theorem plainB_dot (c : UInt8) : plainB ⟨#[46]⟩ c = (wordB c.toNat || decide (c.toNat = 46)) := by
 unfold plainB
 rw [firstIdx_dot]
 by_cases h : c = 46
 ·subst h; rfl
 ·have h2 : ¬ c.toNat = 46 := fun hh => h (UInt8.toNat_inj.1 hh)
  rw [if_neg h]; simp [h2]
def isN (n : ByteArray) (x : LinkD) : Bool := decide (x.Name = n)
def findL (dir : List LinkD) (n : ByteArray) : Int := match dir.find? (isN n) with | some x => x.Id | none => 0
def hasN (dir : List LinkD) (n : ByteArray) : Bool := dir.any (isN n)
def lessL (dir : List LinkD) (n : ByteArray) : List LinkD := dir.filter fun x => !isN n x
def withL : List LinkD → ByteArray → Int → List LinkD
 | [], n, id => [⟨n, id⟩]
 | x :: r, n, id => if 0 < cmpS x.Name n then ⟨n, id⟩ :: x :: r else x :: withL r n id
def turnL (dir : List LinkD) (t : TurnD) : List LinkD :=
 if t.Kind = 1 then withL dir t.Name t.Id else if t.Kind = 4 then withL (lessL (lessL dir t.Name) t.To) t.To (findL dir t.Name) else lessL dir t.Name
def turnOk (dir : List LinkD) (t : TurnD) : Bool :=
 nameOk t.Name && (if t.Kind = 1 then decide (t.To = noName) && decide (0 < t.Id) && !decide (0 < findL dir t.Name)
  else if t.Kind = 4 then nameOk t.To && !decide (t.To = t.Name) && decide (t.Id = 0) && decide (0 < findL dir t.Name)
  else if t.Kind = 5 then decide (t.To = noName) && decide (t.Id = 0) && decide (0 < findL dir t.Name) else false)
def isTurn (t : TurnD) : Bool :=
 if t.Kind = 1 then nameOk t.Name && decide (t.To = noName) else if t.Kind = 4 then nameOk t.Name && nameOk t.To && decide (t.Id = 0) else if t.Kind = 5 then nameOk t.Name && decide (t.To = noName) && decide (t.Id = 0) else false
def appOk (dir : List LinkD) (t : TurnD) : Bool := if t.Kind = 1 then !hasN dir t.Name else hasN dir t.Name && !(decide (t.Kind = 4) && decide (t.To = t.Name))
def sortedL (dir : List LinkD) : Prop := dir.Pairwise fun a b => cmpS a.Name b.Name < 0
theorem lessL_all {dir : List LinkD} {n : ByteArray} {x : LinkD} (h : x ∈ lessL dir n) : x ∈ dir ∧ x.Name ≠ n := by
 unfold lessL at h
 rw [List.mem_filter] at h
 exact ⟨h.1, by have := h.2; simpa [isN] using this⟩
theorem withL_mem {n : ByteArray} {id : Int} {x : LinkD} : ∀ {dir : List LinkD}, x ∈ withL dir n id → x = ⟨n, id⟩ ∨ x ∈ dir
 | [], h => by rw [withL, List.mem_singleton] at h; exact .inl h
 | y :: r, h => by
  unfold withL at h
  split at h
  ·rcases List.mem_cons.1 h with h | h
   ·exact .inl h
   ·exact .inr h
  ·rcases List.mem_cons.1 h with h | h
   ·exact .inr (h ▸ List.mem_cons_self)
   ·rcases withL_mem h with h | h
    ·exact .inl h
    ·exact .inr (List.mem_cons_of_mem _ h)
theorem withL_len {n : ByteArray} {id : Int} : ∀ {dir : List LinkD}, (withL dir n id).length = dir.length + 1
 | [] => rfl
 | x :: r => by
  unfold withL
  split
  ·rfl
  ·rw [List.length_cons, withL_len, List.length_cons]
theorem lessL_len {dir : List LinkD} {n : ByteArray} : (lessL dir n).length ≤ dir.length := List.length_filter_le _ _
theorem sorted_less {dir : List LinkD} {n : ByteArray} (h : sortedL dir) : sortedL (lessL dir n) := List.Pairwise.filter _ h
theorem sorted_with {n : ByteArray} {id : Int} : ∀ {dir : List LinkD}, sortedL dir → (∀ x, x ∈ dir → x.Name ≠ n) → sortedL (withL dir n id)
 | [], _, _ => List.pairwise_singleton _ _
 | x :: r, h, hn => by
  obtain ⟨h1, h2⟩ := List.pairwise_cons.1 h
  unfold withL
  split
  ·rename_i hc
   have hx : cmpS n x.Name < 0 := by rw [cmpS_swap]; omega
   refine List.pairwise_cons.2 ⟨fun y hy => ?_, h⟩
   rcases List.mem_cons.1 hy with rfl | hy
   ·exact hx
   ·exact cmpS_trans hx (h1 y hy)
  ·rename_i hc
   have hx : cmpS x.Name n < 0 := by
    have h0 : cmpS x.Name n ≠ 0 := fun h0 => hn x List.mem_cons_self (cmpS_zero.1 h0)
    omega
   refine List.pairwise_cons.2 ⟨fun y hy => ?_, sorted_with h2 fun y hy => hn y (List.mem_cons_of_mem _ hy)⟩
   rcases withL_mem hy with rfl | hy
   ·exact hx
   ·exact h1 y hy
theorem hasN_not {dir : List LinkD} {n : ByteArray} (h : hasN dir n = false) : ∀ x, x ∈ dir → x.Name ≠ n := by
 intro x hx hh
 unfold hasN at h
 rw [List.any_eq_false] at h
 exact h x hx (by simpa [isN] using hh)
theorem sorted_turn {dir : List LinkD} {t : TurnD} (h : sortedL dir) (ha : appOk dir t = true) : sortedL (turnL dir t) := by
 unfold turnL
 unfold appOk at ha
 split
 ·rename_i hk
  rw [if_pos hk] at ha
  exact sorted_with h (hasN_not (by simpa using ha))
 ·split
  ·exact sorted_with (sorted_less (sorted_less h)) fun x hx => (lessL_all hx).2
  ·exact sorted_less h
theorem turnL_len {dir : List LinkD} {t : TurnD} : (turnL dir t).length ≤ dir.length + 1 := by
 have h1 := lessL_len (dir := dir) (n := t.Name)
 have h2 := lessL_len (dir := lessL dir t.Name) (n := t.To)
 unfold turnL
 split
 ·rw [withL_len]; exact Nat.le_refl _
 ·split
  ·rw [withL_len]; omega
  ·omega
def allI (dir : List LinkD) : Prop := ∀ x, x ∈ dir → 1 ≤ x.Id
theorem findL_mem {dir : List LinkD} {n : ByteArray} (h : hasN dir n = true) : ∃ x, x ∈ dir ∧ x.Name = n ∧ findL dir n = x.Id := by
 unfold hasN at h
 obtain ⟨y, hy, hp⟩ := List.any_eq_true.1 h
 unfold findL
 cases hf : dir.find? (isN n) with
 | none => exact absurd hp (by simpa using List.find?_eq_none.1 hf y hy)
 | some z => exact ⟨z, List.mem_of_find?_eq_some hf, by have := List.find?_some hf; simpa [isN] using this, rfl⟩
theorem findL_none {dir : List LinkD} {n : ByteArray} (h : hasN dir n = false) : findL dir n = 0 := by
 unfold findL
 have : dir.find? (isN n) = none := List.find?_eq_none.2 fun x hx hp => hasN_not h x hx (by simpa [isN] using hp)
 rw [this]
theorem has_find {dir : List LinkD} {n : ByteArray} (h : allI dir) : decide (0 < findL dir n) = hasN dir n := by
 cases hh : hasN dir n with
 | true =>
  obtain ⟨x, hx, _, e⟩ := findL_mem hh
  have := h x hx
  rw [e]; simp; omega
 | false => rw [findL_none hh]; rfl
theorem turn_same {dir : List LinkD} {t : TurnD} (h : allI dir) (hc : t.Kind = 1 → 1 ≤ t.Id) : turnOk dir t = (isTurn t && appOk dir t) := by
 unfold turnOk isTurn appOk
 rw [has_find h]
 by_cases h1 : t.Kind = 1
 ·have := hc h1
  rw [if_pos h1, if_pos h1, if_pos h1, show decide (0 < t.Id) = true from decide_eq_true (by omega)]
  simp [Bool.and_assoc]
 ·rw [if_neg h1, if_neg h1, if_neg h1]
  by_cases h4 : t.Kind = 4
  ·rw [if_pos h4, if_pos h4]
   simp only [h4, decide_true, Bool.true_and]
   cases nameOk t.Name <;> cases nameOk t.To <;> cases decide (t.To = t.Name) <;> cases decide (t.Id = 0) <;> cases hasN dir t.Name <;> rfl
  ·rw [if_neg h4, if_neg h4, show decide (t.Kind = 4) = false from decide_eq_false h4]
   split
   ·simp [Bool.and_assoc]
   ·simp
theorem allI_turn {dir : List LinkD} {t : TurnD} (h : allI dir) (hc : t.Kind = 1 → 1 ≤ t.Id) (ha : appOk dir t = true) : allI (turnL dir t) := by
 intro x hx
 unfold turnL at hx
 unfold appOk at ha
 split at hx
 ·rename_i hk
  rcases withL_mem hx with rfl | hx
  ·exact hc hk
  ·exact h x hx
 ·rename_i hk
  rw [if_neg hk, Bool.and_eq_true] at ha
  split at hx
  ·rcases withL_mem hx with rfl | hx
   ·obtain ⟨y, hy, _, e⟩ := findL_mem ha.1
    show 1 ≤ findL dir t.Name
    rw [e]; exact h y hy
   ·exact h x (lessL_all (lessL_all hx).1).1
  ·exact h x (lessL_all hx).1
def turnsL (dir : List LinkD) (l : List TurnD) : List LinkD := l.foldl turnL dir
def runS : List LinkD → List TurnD → Bool
 | _, [] => true
 | dir, t :: r => turnOk dir t && runS (turnL dir t) r
def runI : List LinkD → List TurnD → Bool
 | _, [] => true
 | dir, t :: r => (isTurn t && appOk dir t) && runI (turnL dir t) r
def made (l : List TurnD) : List Int := (l.filter fun t => decide (t.Kind = 1)).map (·.Id)
theorem run_same : ∀ {l : List TurnD} {dir : List LinkD}, allI dir → (∀ n, n ∈ made l → 1 ≤ n) → runS dir l = runI dir l
 | [], _, _, _ => rfl
 | t :: r, dir, h, hm => by
  have hc : t.Kind = 1 → 1 ≤ t.Id := fun hk => hm _ (by unfold made; rw [List.filter_cons_of_pos (by simpa using hk)]; exact List.mem_cons_self)
  have hr : ∀ n, n ∈ made r → 1 ≤ n := fun n hn => hm n (by unfold made at hn ⊢; by_cases hk : t.Kind = 1 <;> simp [hk, hn] <;> (try right) <;> simpa using hn)
  unfold runS runI
  rw [turn_same h hc]
  cases ha : (isTurn t && appOk dir t) with
  | false => rfl
  | true => rw [Bool.and_eq_true] at ha; rw [run_same (allI_turn h hc ha.2) hr]
theorem turnsL_take {dir : List LinkD} {l : List TurnD} {i : Nat} (h : i < l.length) : turnsL dir (l.take (i + 1)) = turnL (turnsL dir (l.take i)) (gat encTurn l i) := by
 unfold turnsL
 rw [List.take_add_one, gat_get (F := encTurn) h, List.foldl_append]; rfl
theorem turnsL_len {dir : List LinkD} : ∀ {l : List TurnD}, (turnsL dir l).length ≤ dir.length + l.length := by
 intro l
 induction l generalizing dir with
 | nil => exact Nat.le_refl _
 | cons t r ih => have h1 := ih (dir := turnL dir t); have h2 := turnL_len (dir := dir) (t := t); show (turnsL (turnL dir t) r).length ≤ _; rw [List.length_cons]; omega
theorem runI_app {dir : List LinkD} : ∀ {l m : List TurnD}, runI dir (l ++ m) = (runI dir l && runI (turnsL dir l) m) := by
 intro l
 induction l generalizing dir with
 | nil => intro m; rfl
 | cons t r ih => intro m; show ((isTurn t && appOk dir t) && runI (turnL dir t) (r ++ m)) = (((isTurn t && appOk dir t) && runI (turnL dir t) r) && runI (turnsL (turnL dir t) r) m); rw [ih, Bool.and_assoc, Bool.and_assoc, Bool.and_assoc]
theorem runS_app {dir : List LinkD} : ∀ {l m : List TurnD}, runS dir (l ++ m) = (runS dir l && runS (turnsL dir l) m) := by
 intro l
 induction l generalizing dir with
 | nil => intro m; rfl
 | cons t r ih => intro m; show (turnOk dir t && runS (turnL dir t) (r ++ m)) = ((turnOk dir t && runS (turnL dir t) r) && runS (turnsL (turnL dir t) r) m); rw [ih, Bool.and_assoc]
theorem sorted_turns {dir : List LinkD} : ∀ {l : List TurnD}, sortedL dir → runI dir l = true → sortedL (turnsL dir l) := by
 intro l
 induction l generalizing dir with
 | nil => exact fun h _ => h
 | cons t r ih =>
  intro h hr
  unfold runI at hr
  simp only [Bool.and_eq_true] at hr
  exact ih (sorted_turn h hr.1.2) hr.2
theorem sm_less {B : Nat} {dir : List LinkD} {n : ByteArray} (h : ∀ x, x ∈ dir → smLink B x) : ∀ x, x ∈ lessL dir n → smLink B x := fun x hx => h x (lessL_all hx).1
theorem sm_with {B : Nat} {dir : List LinkD} {n : ByteArray} {id : Int} (h : ∀ x, x ∈ dir → smLink B x) (hn : n.size ≤ B) : ∀ x, x ∈ withL dir n id → smLink B x := fun x hx => by
 rcases withL_mem hx with rfl | hx
 ·exact hn
 ·exact h x hx
theorem sm_turn {B : Nat} {dir : List LinkD} {t : TurnD} (h : ∀ x, x ∈ dir → smLink B x) (ht : smTurn B t) : ∀ x, x ∈ turnL dir t → smLink B x := by
 unfold turnL
 split
 ·exact sm_with h ht.1
 ·split
  ·exact sm_with (sm_less (sm_less h)) ht.2
  ·exact sm_less h
theorem sm_turns {B : Nat} {dir : List LinkD} : ∀ {l : List TurnD}, (∀ x, x ∈ dir → smLink B x) → (∀ t, t ∈ l → smTurn B t) → ∀ x, x ∈ turnsL dir l → smLink B x := by
 intro l
 induction l generalizing dir with
 | nil => exact fun h _ => h
 | cons t r ih => exact fun h ht => ih (sm_turn h (ht t List.mem_cons_self)) fun u hu => ht u (List.mem_cons_of_mem _ hu)
theorem nameB_of {c : UInt8} (h : (((decide ((c.toNat : Int) < 97) || decide (122 < (c.toNat : Int))) && (decide ((c.toNat : Int) < 48) || decide (57 < (c.toNat : Int)))) && !decide ((c.toNat : Int) = 46)) = false) : (wordB c.toNat || decide (c.toNat = 46)) = true := by
 simp [wordB] at h ⊢; omega
theorem nameB_not {c : UInt8} (h : (((decide ((c.toNat : Int) < 97) || decide (122 < (c.toNat : Int))) && (decide ((c.toNat : Int) < 48) || decide (57 < (c.toNat : Int)))) && !decide ((c.toNat : Int) = 46)) = true) : (wordB c.toNat || decide (c.toNat = 46)) = false := by
 simp [wordB] at h ⊢; omega
theorem findL_at {dir : List LinkD} {n : ByteArray} {i : Nat} (hi : i < dir.length) (h : ∀ j, j < i → isN n (gat encLink dir j) = false) (hp : isN n (gat encLink dir i) = true) : findL dir n = (gat encLink dir i).Id := by
 have hg : ∀ j (hj : j < dir.length), gat encLink dir j = dir[j] := fun j hj => by
  have := gat_get (F := encLink) hj
  rw [List.getElem?_eq_getElem hj] at this
  exact (Option.some.inj this).symm
 have e : dir.find? (isN n) = some (dir[i]) := by
  rw [List.find?_eq_some_iff_getElem]
  refine ⟨by rw [← hg i hi]; exact hp, i, hi, rfl, fun j hj => ?_⟩
  rw [← hg j (by omega), h j hj]; rfl
 unfold findL
 rw [e, hg i hi]
theorem findL_no {dir : List LinkD} {n : ByteArray} (h : ∀ j, j < dir.length → isN n (gat encLink dir j) = false) : findL dir n = 0 := by
 refine findL_none ?_
 unfold hasN
 rw [List.any_eq_false]
 intro x hx
 obtain ⟨j, hj, rfl⟩ := List.mem_iff_getElem.1 hx
 have := gat_get (F := encLink) hj
 rw [List.getElem?_eq_getElem hj] at this
 rw [Option.some.inj this, h j hj]; decide
theorem lessL_take {dir : List LinkD} {n : ByteArray} {i : Nat} (h : i < dir.length) : lessL (dir.take (i + 1)) n = lessL (dir.take i) n ++ (if (!isN n (gat encLink dir i)) = true then [gat encLink dir i] else []) := by
 unfold lessL
 rw [List.take_add_one, gat_get (F := encLink) h, List.filter_append]
 congr 1
 show List.filter _ [gat encLink dir i] = _
 rw [List.filter_cons]
 rfl
theorem drop_link {α : Type} {F : Enc α} {l : List α} {i : Nat} (h : i < l.length) : l.drop i = gat F l i :: l.drop (i + 1) := by
 have := gat_get (F := F) h
 rw [List.drop_eq_getElem_cons h]
 rw [List.getElem?_eq_getElem h] at this
 rw [Option.some.inj this]
theorem with_done {dir zs : List LinkD} {i : Nat} {W : List LinkD} (h : zs ++ dir.drop i = W) (hi : i < dir.length) : (zs ++ [gat encLink dir i]) ++ dir.drop (i + 1) = W := by
 rw [List.append_assoc, List.singleton_append, ← drop_link hi, h]
theorem with_put {dir zs : List LinkD} {n : ByteArray} {id : Int} {i : Nat} {W : List LinkD} (h : zs ++ withL (dir.drop i) n id = W) (hi : i < dir.length) (hc : 0 < cmpS (gat encLink dir i).Name n) : ((zs ++ [⟨n, id⟩]) ++ [gat encLink dir i]) ++ dir.drop (i + 1) = W := by
 rw [← h, drop_link (F := encLink) hi, withL, if_pos hc]; simp
theorem with_on {dir zs : List LinkD} {n : ByteArray} {id : Int} {i : Nat} {W : List LinkD} (h : zs ++ withL (dir.drop i) n id = W) (hi : i < dir.length) (hc : ¬ 0 < cmpS (gat encLink dir i).Name n) : (zs ++ [gat encLink dir i]) ++ withL (dir.drop (i + 1)) n id = W := by
 rw [← h, drop_link (F := encLink) hi, withL, if_neg hc]; simp
theorem with_next {dir zs : List LinkD} {n : ByteArray} {id : Int} {i : Nat} {W : List LinkD} {b : Bool} (h : zs ++ (if b = true then dir.drop i else withL (dir.drop i) n id) = W) (hi : i < dir.length) (hc : (!b && decide (0 < cmpS (gat encLink dir i).Name n)) = false) : (zs ++ [gat encLink dir i]) ++ (if b = true then dir.drop (i + 1) else withL (dir.drop (i + 1)) n id) = W := by
 cases b with
 | true => rw [if_pos rfl] at h ⊢; exact with_done h hi
 | false => rw [if_neg (by decide)] at h ⊢; exact with_on h hi (by simpa using hc)
theorem with_new {dir zs : List LinkD} {n : ByteArray} {id : Int} {i : Nat} {W : List LinkD} {b : Bool} (h : zs ++ (if b = true then dir.drop i else withL (dir.drop i) n id) = W) (hi : i < dir.length) (hc : (!b && decide (0 < cmpS (gat encLink dir i).Name n)) = true) : ((zs ++ [⟨n, id⟩]) ++ [gat encLink dir i]) ++ (if true = true then dir.drop (i + 1) else withL (dir.drop (i + 1)) n id) = W := by
 rw [Bool.and_eq_true] at hc
 cases b with
 | true => exact absurd hc.1 (by decide)
 | false => rw [if_neg (by decide)] at h; rw [if_pos rfl]; exact with_put h hi (by simpa using hc.2)
theorem with_end {dir zs : List LinkD} {n : ByteArray} {id : Int} {W : List LinkD} {b : Bool} (h : zs ++ (if b = true then dir.drop dir.length else withL (dir.drop dir.length) n id) = W) : (if b = true then zs else zs ++ [⟨n, id⟩]) = W := by
 rw [List.drop_length] at h
 cases b with
 | true => rw [if_pos rfl] at h ⊢; rwa [List.append_nil] at h
 | false => rw [if_neg (by decide)] at h ⊢; exact h
theorem ext_idx (s : ByteArray) (c : Int) (w : World) : (callFunc 127 #[.string s, .int .u8 c]).run Tryz.prog w = .ok (.value (.int .i64 (firstIdx s c.toNat.toUInt8))) w := by
  rw [run_callFunc_extern Tryz.func127 (by kernel_rfl) (by kernel_rfl) (by kernel_rfl) (e := Extern.BytealgIndexByte.indexByte) (by kernel_rfl), run_indexByte_string]
  rfl
theorem k6_ (s : ByteArray) (c : Int) (w : World) :
    Calls Tryz.prog 117 #[.string s, .int .u8 c] w fun e w' => e = .returned (.int .i64 (firstIdx s c.toNat.toUInt8)) ∧ St w [] [] w' := by
 refine enter 8 Tryz.func117 rfl Tryz.ntmps117 rfl rfl ?_
 have hs1 := St.init w
 refine WC.r1 hs1 [] rfl (WC.sr (WL.r 2 hs1 [] rfl (WL.val rfl rfl rfl (Run.ext (ext_idx _ _) rfl rfl rfl) (WL.r 1 hs1 [] rfl (WL.nil (WC.ret (retV1 rfl (resV.tmp rfl) ?_)))))))
 refine ⟨congrArg Ending.returned ?_, hs1.nil⟩
 rfl
theorem k7_ (s : ByteArray) (c : Int) (w : World) :
    Calls Tryz.prog 99 #[.string s, .int .u8 c] w fun e w' => e = .returned (.int .i64 (firstIdx s c.toNat.toUInt8)) ∧ St w [] [] w' := by
 refine enter 8 Tryz.func99 rfl Tryz.ntmps99 rfl rfl ?_
 have hs1 := St.init w
 refine WC.r1 hs1 [] rfl (WC.sr (WL.r 2 hs1 [] rfl (WL.cl Tryz.call117 rfl (k6_ _ _ _) ?_)))
 rintro _ whs2 ⟨rfl, hs2⟩
 replace hs2 := hs1.call0 hs2
 refine ⟨_, rfl, WL.r 1 hs2 [] rfl (WL.nil (WC.ret (rtv rfl rfl hs2 ?_)))⟩
 rfl
theorem k8_ (s : ByteArray) (most : Int) (more : ByteArray) (w : World) (hz : s.size ≤ 1099511627776) :
    Calls Tryz.prog 85 #[.string s, i64 most, .string more] w fun e w' => e = .returned (.bool (isPlain s most more)) ∧ St w [] [] w' := by
 refine enter 43 Tryz.func85 rfl Tryz.ntmps85 rfl rfl ?_
 have hs1 := St.init w
 refine WC.r1 hs1 [] rfl (WC.seq (fun K2 hK2 => WC.r1 hs1 [] rfl (WC.block ?_)))
 refine WC.lS [0, 1, 2, 10] rfl hs1 (fun k_ f w' => ∃ (i : Nat), k_ = s.size - i ∧ (i ≤ s.size) ∧ (upto (plainB more) s i) ∧ Sub [(11, .int .i64 i)] f) ((fun (i : Nat) => s.size - i) (0)) ?_ ?_
 ·refine ⟨0, rfl, ?_, ?_, ⟨rfl, trivial⟩⟩
  · exact Nat.zero_le _
  · exact upto_zero
 clear hs1
 rintro _ f w ⟨i, rfl, p0, p1, hG⟩ hF hs3
 refine WC.sub _ (hG.app hF) ?_
 clear hG hF
 refine WC.r1 hs3 [] rfl (WC.seq (fun K4 hK4 => ?_))
 refine WC.cD rfl (fun qh5 => ?_) (fun qh5 => ?_)
 ·refine WC.skip (hK4 _ _ (WC.seq (fun K6 hK6 => WC.block (WC.r1 hs3 [] rfl (WC.sr (WL.r 2 hs3 [] rfl ?_))))))
  refine WL.val rfl rfl rfl (Run.idxStr Tryz.runUnderlying9 rfl rfl rfl ?_ ?_) ?_
  · omega
  · omega
  refine WL.r 1 hs3 [] rfl (WL.nil (WC.sr (WL.r 3 hs3 [] rfl (WL.pA tbk 2 Acts.nil hs3 [] rfl rfl rfl rfl (fun g_ => trivial) (WL.r 1 hs3 [] rfl ?_)))))
  apply WL.gO 6 Acts.nil hs3 rfl
  ·intro g7 J8
   refine WL.runA tbk 3 (Acts.nil.cons (j := 6) rfl g7) hs3 [] rfl trivial (WL.pA tbk 2 (Acts.nil.cons (j := 6) rfl g7) hs3 [] rfl rfl rfl rfl (fun g_ => trivial) (WL.eO 4 Acts.nil J8 hs3 g7 rfl rfl))
  intro _ hs9
  refine WL.r 1 hs9 [] rfl ?_
  apply WL.gO 4 Acts.nil hs9 rfl
  ·intro g10 J11
   refine WL.runA tbk 2 (Acts.nil.cons (j := 14) rfl g10) hs9 [] rfl trivial (WL.call (wantF rfl g10) rfl rfl (Run.call Tryz.call99 rfl rfl rfl) (k7_ _ _ _) ?_)
   rintro _ whs12 ⟨rfl, hs12⟩
   replace hs12 := hs9.call0 hs12
   refine ⟨_, rfl, WL.runA tbk 1 (Acts.nil.cons (j := 14) rfl g10) hs12 [] rfl trivial (WL.eO 4 Acts.nil J11 hs12 g10 rfl rfl)⟩
  intro _ hs13
  refine WL.r 1 hs13 [] rfl (WL.nil (WC.cq rfl (fun h14 qh14 => ?_) (fun h14 qh14 => ?_)))
  ·refine WC.r1 hs13 [] rfl (WC.ret (ibR (tkR (tkR (ibR (tkR ?_))))))
   clear hK6 hK2
   refine rtv rfl rfl hs13 ?_
   have e : plainB more (sbyte s i) = false := by simpa [plainB, wordB] using qh14
   simp [isPlain, allB_false (by omega) e]
  refine WC.skip (hK6 _ _ (WC.region (WL.r 2 hs13 [] rfl (WL.nil (tkN ?_)))))
  refine ⟨sbF rfl, hs13, _, ?_, i + 1, rfl, ?_, ?_, ⟨rfl, trivial⟩⟩
  · omega
  · omega
  · refine upto_succ p1 ?_; simpa [plainB, wordB] using qh14
 refine WC.exit (hK2 _ _ (WC.sr (WL.r 3 hs3 [] rfl (WL.cl Tryz.call60 rfl (k0_ _ _ _ _) ?_))))
 rintro _ whs15 ⟨rfl, hs15⟩
 replace hs15 := hs3.call0 hs15
 refine ⟨_, rfl, WL.r 1 hs15 [] rfl (WL.nil (WC.ret (rtv rfl rfl hs15 ?_)))⟩
 simp [isPlain, allB_true p1 (by omega)]
theorem k9_ (s : ByteArray) (w : World) (hz : s.size ≤ 1099511627776) :
    Calls Tryz.prog 63 #[.string s] w fun e w' => e = .returned (.bool (nameOk s)) ∧ St w [] [] w' := by
 refine enter 5 Tryz.func63 rfl Tryz.ntmps63 rfl rfl ?_
 have hs1 := St.init w
 refine WC.r1 hs1 [] rfl (WC.sr (WL.r 1 hs1 [] rfl (WL.cl Tryz.call85 rfl (k8_ _ _ _ _ ?_) ?_)))
 · first | assumption | rfl | omega
 rintro _ whs2 ⟨rfl, hs2⟩
 replace hs2 := hs1.call0 hs2
 refine ⟨_, rfl, WL.r 1 hs2 [] rfl (WL.nil (WC.ret (rtv rfl rfl hs2 ?_)))⟩
 rfl
theorem k10_ (s : ByteArray) (w : World) (hz : s.size ≤ 1099511627776) :
    Calls Tryz.prog 51 #[.string s] w fun e w' => e = .returned (.bool (nameOk s)) ∧ St w [] [] w' := by
 refine enter 46 Tryz.func51 rfl Tryz.ntmps51 rfl rfl ?_
 have hs1 := St.init w
 refine WC.r1 hs1 [] rfl (WC.seq (fun K2 hK2 => WC.r1 hs1 [] rfl (WC.block ?_)))
 refine WC.lS [0] rfl hs1 (fun k_ f w' => ∃ (i : Nat), k_ = s.size - i ∧ (i ≤ s.size) ∧ (upto (plainB ⟨#[46]⟩) s i) ∧ Sub [(3, .int .i64 i)] f) ((fun (i : Nat) => s.size - i) (0)) ?_ ?_
 ·refine ⟨0, rfl, ?_, ?_, ⟨rfl, trivial⟩⟩
  · exact Nat.zero_le _
  · exact upto_zero
 clear hs1
 rintro _ f w ⟨i, rfl, p0, p1, hG⟩ hF hs3
 refine WC.sub _ (hG.app hF) ?_
 clear hG hF
 refine WC.seq (fun K4 hK4 => WC.r1 hs3 [] rfl ?_)
 refine WC.cond rfl (fun h5 => ?_) (fun h5 => ?_)
 ·have qh5 := h5
  try simp only [decide_eq_true_eq, decide_eq_false_iff_not] at qh5
  refine WC.skip (hK4 _ _ (WC.seq (fun K6 hK6 => WC.block (WC.sr (WL.r 2 hs3 [] rfl ?_)))))
  refine WL.val rfl rfl rfl (Run.idxStr Tryz.runUnderlying9 rfl rfl rfl ?_ ?_) ?_
  · omega
  · omega
  refine WL.r 2 hs3 [] rfl ?_
  apply WL.gO 4 Acts.nil hs3 rfl
  ·intro g7 J8
   refine WL.runA tbk 2 (Acts.nil.cons (j := 4) rfl g7) hs3 [] rfl trivial (WL.val (wantF rfl g7) rfl rfl (Run.idxStr Tryz.runUnderlying9 rfl rfl rfl ?_ ?_) ?_)
   · omega
   · omega
   refine WL.runA tbk 1 (Acts.nil.cons (j := 4) rfl g7) hs3 [] rfl trivial (WL.eO 4 Acts.nil J8 hs3 g7 rfl rfl)
  intro _ hs9
  refine WL.r 1 hs9 [] rfl ?_
  apply WL.gA 10 Acts.nil hs9 rfl
  ·intro g10 J11
   refine WL.runA tbk 2 (Acts.nil.cons (j := 10) rfl g10) hs9 [] rfl trivial (WL.val (wantT rfl g10) rfl rfl (Run.idxStr Tryz.runUnderlying9 rfl rfl rfl ?_ ?_) ?_)
   · omega
   · omega
   refine WL.runA tbk 2 (Acts.nil.cons (j := 10) rfl g10) hs9 [] rfl trivial ?_
   apply WL.gO 4 (Acts.nil.cons (j := 10) rfl g10) hs9 rfl
   ·intro g12 J13
    refine WL.runA tbk 2 (Acts.nil.cons (j := 15) rfl g12) hs9 [] rfl trivial (WL.val (wantF rfl g12) rfl rfl (Run.idxStr Tryz.runUnderlying9 rfl rfl rfl ?_ ?_) ?_)
    · omega
    · omega
    refine WL.runA tbk 1 (Acts.nil.cons (j := 15) rfl g12) hs9 [] rfl trivial (WL.eO 4 (Acts.nil.cons (j := 10) rfl g10) J13 hs9 g12 rfl rfl)
   intro _ hs14
   exact WL.eA 6 Acts.nil J11 hs14 g10 rfl rfl
  intro _ hs15
  refine WL.r 1 hs15 [] rfl ?_
  apply WL.gA 4 Acts.nil hs15 rfl
  ·intro g16 J17
   refine WL.runA tbk 2 (Acts.nil.cons (j := 22) rfl g16) hs15 [] rfl trivial (WL.val (wantT rfl g16) rfl rfl (Run.idxStr Tryz.runUnderlying9 rfl rfl rfl ?_ ?_) ?_)
   · omega
   · omega
   refine WL.runA tbk 1 (Acts.nil.cons (j := 22) rfl g16) hs15 [] rfl trivial (WL.eA 4 Acts.nil J17 hs15 g16 rfl rfl)
  intro _ hs18
  refine WL.nil (WC.cond rfl (fun h19 => ?_) (fun h19 => ?_))
  ·have qh19 := h19
   try simp only [decide_eq_true_eq, decide_eq_false_iff_not] at qh19
   refine WC.r1 hs18 [] rfl (WC.ret (ibR (tkR (tkR (ibR (tkR ?_))))))
   clear hK6 hK2
   refine rtv rfl rfl hs18 ?_
   have e : plainB ⟨#[46]⟩ (sbyte s i) = false := by rw [plainB_dot]; simp only [Int.toNat_natCast] at qh19; simpa [wordB] using nameB_not qh19
   simp [nameOk, isPlain, allB_false (by omega) e]
  have qh19 := h19
  try simp only [decide_eq_true_eq, decide_eq_false_iff_not] at qh19
  refine WC.skip (hK6 _ _ (WC.region (WL.r 3 hs18 [] rfl (WL.nil (tkN ?_)))))
  refine ⟨sbF rfl, hs18, _, ?_, i + 1, rfl, ?_, ?_, ⟨rfl, trivial⟩⟩
  · omega
  · omega
  · refine upto_succ p1 ?_; rw [plainB_dot]; simp only [Int.toNat_natCast] at qh19; simpa [wordB] using nameB_of qh19
 have qh5 := h5
 try simp only [decide_eq_true_eq, decide_eq_false_iff_not] at qh5
 refine WC.exit (hK2 _ _ (WC.sr (WL.r 4 hs3 [] rfl (WL.pA tbk 3 Acts.nil hs3 [] rfl rfl rfl rfl (fun g_ => trivial) (WL.r 1 hs3 [] rfl (WL.nil (WC.ret ?_)))))))
 refine rtv rfl rfl hs3 ?_
 simp only [nameOk, isPlain, allB_true p1 (by omega), Bool.true_and]; rfl
set_option maxHeartbeats 4000000 in
theorem k11_ (a : FileR) (left : Int) (w : World) (f_a : okFileR 9223372036854775807 w a) (h1 : 0 ≤ left) (h2 : left ≤ 1048576) :
    Calls Tryz.prog 48 #[.agg #[i64 a.Id, .slice a.Body.A a.Body.n a.Body.c, i64 a.Safe], i64 left] w fun e w' => e = .returned (.int .i64 (szR left (totFile a.dat))) ∧ St w [] [] w' := by
 have nb_a_Body := f_a.Body_n
 have nl_a_Body := f_a.Body.len
 refine enter 12 Tryz.func48 rfl Tryz.ntmps48 rfl rfl ?_
 have hs1 := St.init w
 refine WC.sr (WL.bx hs1 rfl (fun b2 _ hs3 => WL.r 1 hs3 [] rfl (WL.nil (WC.sr (WL.r 3 hs3 [0] rfl ?_)))))
 refine WL.cl Tryz.call18 rfl (k1_ _ _ _ _ _ _ (SlF.st0 f_a.Body hs3) ?_ ?_ ?_) ?_
 · first | assumption | omega
 · first | assumption | omega | exact szR_b (by assumption) (by omega) (by first | assumption | omega)
 · first | assumption | omega
 rintro _ whs4 ⟨rfl, hs4⟩
 replace hs4 := hs3.call0 hs4
 refine ⟨_, rfl, WL.r 1 hs4 [] rfl (WL.nil (WC.seq (fun K5 hK5 => WC.r1 hs4 [] rfl ?_)))⟩
 refine WC.cD rfl (fun qh6 => ?_) (fun qh6 => ?_)
 ·try have soh6 := szR_ok qh6 (by omega)
  try have sbh6 := szR_b qh6 (by omega) (by first | assumption | omega)
  try have snh6 := szR_no qh6
  refine WC.r1 hs4 [] rfl (WC.ret (tkR ?_))
  clear hK5
  refine rtv rfl rfl hs4 ?_
  simp only [totFile, FileR.dat] at *; first | (rw [szR_lt (by omega)]; done) | (refine congrArg (Value.int _) ?_; symm; refine (szR_le ?_).trans ?_ <;> omega) | rfl
 try have soh6 := szR_ok qh6 (by omega)
 try have sbh6 := szR_b qh6 (by omega) (by first | assumption | omega)
 try have snh6 := szR_no qh6
 refine WC.skip (hK5 _ _ (WC.r1 hs4 [] rfl (WC.ret (rtv rfl rfl hs4 ?_))))
 simp only [totFile, FileR.dat] at *; first | (rw [szR_lt (by omega)]; done) | (refine congrArg (Value.int _) ?_; symm; refine (szR_le ?_).trans ?_ <;> omega) | rfl
set_option maxHeartbeats 4000000 in
theorem k12_ (a : FileR) (w : World) (f_a : okFileR 549755813888 w a) :
    Calls Tryz.prog 57 #[.agg #[i64 a.Id, .slice a.Body.A a.Body.n a.Body.c, i64 a.Safe]] w fun e w' => ∃ r L1, e = .returned (.agg #[i64 r.Id, .slice r.Body.A r.Body.n r.Body.c, i64 r.Safe]) ∧ St w [] L1 w' ∧ ownFileR r L1 ∧ r.dat = a.dat := by
 have nb_a_Body := f_a.Body_n
 have nl_a_Body := f_a.Body.len
 refine enter 15 Tryz.func57 rfl Tryz.ntmps57 rfl rfl ?_
 have hs1 := St.init w
 refine WC.sr (WL.bx hs1 rfl (fun b2 _ hs3 => WL.al hs3 Tryz.zeroValue58 rfl rfl (fun b4 _ hs5 => WL.nil (WC.sr (WL.al hs5 Tryz.zeroValue58 rfl rfl (fun b6 _ hs7 => WL.nil (WC.sr ?_)))))))
 refine WL.r 3 hs7 [2] rfl (WL.st tbk hs7 0 rfl rfl (fun _ hs8 => WL.nil (WC.sr (WL.r 2 hs8 [2] rfl ?_))))
 refine WL.cl Tryz.call31 rfl (k2_ _ _ _ _ _ (SlF.st0 f_a.Body hs8) ?_) ?_
 · first | assumption | rfl | omega
 rintro _ whs9 ⟨A10, c11, L1_12, rfl, hs9, ho13⟩
 replace hs9 := hs8.callF hs9
 refine ⟨_, rfl, ?_⟩
 replace hs9 := St.back [_, _, _] hs9
 refine WL.r 1 hs9 [] rfl (WL.st tbk hs9 0 rfl rfl (fun _ hs14 => WL.nil (WC.sr (WL.r 3 hs14 [2] rfl (WL.st tbk hs14 0 rfl rfl (fun _ hs15 => WL.nil (WC.sr ?_)))))))
 refine WL.r 1 hs15 [0] rfl (WL.st tbk hs15 1 rfl rfl (fun _ hs16 => WL.nil (WC.ret (retV1 rfl (resV.cellA tbk hs16 1 rfl rfl rfl rfl) ?_))))
 refine ⟨⟨a.Id, SlD.of ho13, a.Safe⟩, _, rfl, (St.keep1 (hs16.fr L1_12)), ?_, ?_⟩
 · exact ho13
 · exact FileD.ext' rfl rfl rfl
theorem k13_ (a_Name : ByteArray) (a_Id : Int) (left : Int) (w : World) (h1 : 0 ≤ left) (h2 : left ≤ 1048576) (hz0 : a_Name.size ≤ 9223372036854775807) :
    Calls Tryz.prog 49 #[.agg #[.string a_Name, i64 a_Id], i64 left] w fun e w' => e = .returned (.int .i64 (szR left (totLink ⟨a_Name, a_Id⟩))) ∧ St w [] [] w' := by
 refine enter 13 Tryz.func49 rfl Tryz.ntmps49 rfl rfl ?_
 have hs1 := St.init w
 refine WC.sr (WL.bx hs1 rfl (fun b2 _ hs3 => WL.r 1 hs3 [] rfl (WL.nil (WC.r1 hs3 [0] rfl (WC.seq (fun K4 hK4 => WC.r1 hs3 [] rfl ?_))))))
 refine WC.cD rfl (fun qh5 => ?_) (fun qh5 => ?_)
 ·refine WC.r1 hs3 [] rfl (WC.ret (tkR ?_))
  clear hK4
  refine rtv rfl rfl hs3 ?_
  simp only [totLink] at *; first | (rw [szR_lt (by omega)]; done) | (refine congrArg (Value.int _) ?_; symm; refine (szR_le ?_).trans ?_ <;> omega) | rfl
 refine WC.skip (hK4 _ _ (WC.r1 hs3 [] rfl (WC.ret (rtv rfl rfl hs3 ?_))))
 simp only [totLink] at *; first | (rw [szR_lt (by omega)]; done) | (refine congrArg (Value.int _) ?_; symm; refine (szR_le ?_).trans ?_ <;> omega) | rfl
theorem k14_ (a_Kind : Int) (a_Name : ByteArray) (a_To : ByteArray) (a_Id : Int) (left : Int) (w : World) (h1 : 0 ≤ left) (h2 : left ≤ 1048576) (hz0 : a_Name.size ≤ 9223372036854775807) (hz1 : a_To.size ≤ 9223372036854775807) :
    Calls Tryz.prog 50 #[.agg #[i64 a_Kind, .string a_Name, .string a_To, i64 a_Id], i64 left] w fun e w' => e = .returned (.int .i64 (szR left (totTurn ⟨a_Kind, a_Name, a_To, a_Id⟩))) ∧ St w [] [] w' := by
 refine enter 20 Tryz.func50 rfl Tryz.ntmps50 rfl rfl ?_
 have hs1 := St.init w
 refine WC.sr (WL.bx hs1 rfl (fun b2 _ hs3 => WL.r 1 hs3 [] rfl (WL.nil (WC.r1 hs3 [0] rfl (WC.seq (fun K4 hK4 => WC.r1 hs3 [] rfl ?_))))))
 refine WC.cD rfl (fun qh5 => ?_) (fun qh5 => ?_)
 ·refine WC.r1 hs3 [] rfl (WC.ret (tkR ?_))
  clear hK4
  refine rtv rfl rfl hs3 ?_
  simp only [totTurn] at *; first | (rw [szR_lt (by omega)]; done) | (refine congrArg (Value.int _) ?_; symm; refine (szR_le ?_).trans ?_ <;> omega) | rfl
 refine WC.skip (hK4 _ _ (WC.r1 hs3 [0] rfl (WC.seq (fun K6 hK6 => WC.r1 hs3 [] rfl ?_))))
 refine WC.cD rfl (fun qh7 => ?_) (fun qh7 => ?_)
 ·refine WC.r1 hs3 [] rfl (WC.ret (tkR ?_))
  clear hK6
  refine rtv rfl rfl hs3 ?_
  simp only [totTurn] at *; first | (rw [szR_lt (by omega)]; done) | (refine congrArg (Value.int _) ?_; symm; refine (szR_le ?_).trans ?_ <;> omega) | rfl
 refine WC.skip (hK6 _ _ (WC.r1 hs3 [] rfl (WC.ret (rtv rfl rfl hs3 ?_))))
 simp only [totTurn] at *; first | (rw [szR_lt (by omega)]; done) | (refine congrArg (Value.int _) ?_; symm; refine (szR_le ?_).trans ?_ <;> omega) | rfl
theorem k15_ (a_Name : ByteArray) (a_Id : Int) (w : World) :
    Calls Tryz.prog 58 #[.agg #[.string a_Name, i64 a_Id]] w fun e w' => e = .returned (.agg #[.string a_Name, i64 a_Id]) ∧ St w [] [] w' := by
 refine enter 11 Tryz.func58 rfl Tryz.ntmps58 rfl rfl ?_
 have hs1 := St.init w
 refine WC.sr (WL.bx hs1 rfl (fun b2 _ hs3 => WL.al hs3 Tryz.zeroValue82 rfl rfl (fun b4 _ hs5 => WL.nil (WC.sr (WL.al hs5 Tryz.zeroValue82 rfl rfl (fun b6 _ hs7 => WL.nil (WC.sr ?_)))))))
 refine WL.r 3 hs7 [2] rfl (WL.st tbk hs7 0 rfl rfl (fun _ hs8 => WL.nil (WC.sr (WL.r 3 hs8 [2] rfl (WL.st tbk hs8 0 rfl rfl (fun _ hs9 => WL.nil (WC.sr ?_)))))))
 refine WL.r 1 hs9 [0] rfl (WL.st tbk hs9 1 rfl rfl (fun _ hs10 => WL.nil (WC.ret (retV1 rfl (resV.cellA tbk hs10 1 rfl rfl rfl rfl) (⟨congrArg Ending.returned ?_, hs10.nil⟩)))))
 rfl
theorem k16_ (a_Kind : Int) (a_Name : ByteArray) (a_To : ByteArray) (a_Id : Int) (w : World) :
    Calls Tryz.prog 59 #[.agg #[i64 a_Kind, .string a_Name, .string a_To, i64 a_Id]] w fun e w' => e = .returned (.agg #[i64 a_Kind, .string a_Name, .string a_To, i64 a_Id]) ∧ St w [] [] w' := by
 refine enter 17 Tryz.func59 rfl Tryz.ntmps59 rfl rfl ?_
 have hs1 := St.init w
 refine WC.sr (WL.bx hs1 rfl (fun b2 _ hs3 => WL.al hs3 Tryz.zeroValue60 rfl rfl (fun b4 _ hs5 => WL.nil (WC.sr (WL.al hs5 Tryz.zeroValue60 rfl rfl (fun b6 _ hs7 => WL.nil (WC.sr ?_)))))))
 refine WL.r 3 hs7 [2] rfl (WL.st tbk hs7 0 rfl rfl (fun _ hs8 => WL.nil (WC.sr (WL.r 3 hs8 [2] rfl (WL.st tbk hs8 0 rfl rfl (fun _ hs9 => WL.nil (WC.sr ?_)))))))
 refine WL.r 3 hs9 [2] rfl (WL.st tbk hs9 0 rfl rfl (fun _ hs10 => WL.nil (WC.sr (WL.r 3 hs10 [2] rfl (WL.st tbk hs10 0 rfl rfl (fun _ hs11 => WL.nil (WC.sr ?_)))))))
 refine WL.r 1 hs11 [0] rfl (WL.st tbk hs11 1 rfl rfl (fun _ hs12 => WL.nil (WC.ret (retV1 rfl (resV.cellA tbk hs12 1 rfl rfl rfl rfl) (⟨congrArg Ending.returned ?_, hs12.nil⟩)))))
 rfl
set_option maxHeartbeats 4000000 in
theorem k17_ (a : FileR) (b : FileR) (w : World) (f_a : okFileR 549755813888 w a) (f_b : okFileR 549755813888 w b) (hab : a.dat = b.dat) :
    Calls Tryz.prog 73 #[.agg #[i64 a.Id, .slice a.Body.A a.Body.n a.Body.c, i64 a.Safe], .agg #[i64 b.Id, .slice b.Body.A b.Body.n b.Body.c, i64 b.Safe]] w fun e w' => e = .returned (.bool true) ∧ St w [] [] w' := by
 have nb_a_Body := f_a.Body_n
 have nl_a_Body := f_a.Body.len
 have nb_b_Body := f_b.Body_n
 have nl_b_Body := f_b.Body.len
 have e_Id : a.Id = b.Id := congrArg (fun d : FileD => d.Id) hab
 have e_Body : a.Body.xs = b.Body.xs := congrArg (fun d : FileD => d.Body) hab
 have e_Safe : a.Safe = b.Safe := congrArg (fun d : FileD => d.Safe) hab
 refine enter 21 Tryz.func73 rfl Tryz.ntmps73 rfl rfl ?_
 have hs1 := St.init w
 refine WC.sr (WL.bx hs1 rfl (fun b2 _ hs3 => WL.bx hs3 rfl (fun b4 _ hs5 => WL.r 1 hs5 [] rfl (WL.nil (WC.seq (fun K6 hK6 => WC.r1 hs5 [1, 0] rfl (WC.condF rfl (by simp [e_Id, e_Safe]) ?_)))))))
 refine WC.skip (hK6 _ _ (WC.seq (fun K8 hK8 => WC.sr (WL.r 4 hs5 [1, 0] rfl ?_))))
 refine WL.cl Tryz.call40 rfl (k3_ _ _ _ _ _ _ _ _ _ (SlF.st0 f_a.Body hs5) (SlF.st0 f_b.Body hs5) ?_ ?_) ?_
 iterate 2 first | assumption | rfl | omega
 rintro _ whs9 ⟨rfl, hs9⟩
 replace hs9 := hs5.call0 hs9
 refine ⟨_, rfl, WL.r 1 hs9 [] rfl (WL.nil (WC.condF rfl (by simp [e_Id, e_Safe]) (WC.skip (hK8 _ _ (WC.seq (fun K11 hK11 => WC.r1 hs9 [1, 0] rfl ?_))))))⟩
 refine WC.condF rfl (by simp [e_Id, e_Safe]) (WC.skip (hK11 _ _ (WC.r1 hs9 [] rfl (WC.ret (rtv rfl rfl hs9 ?_)))))
 rfl
theorem k18_ (a_Name : ByteArray) (a_Id : Int) (b_Name : ByteArray) (b_Id : Int) (w : World) (hab : (⟨a_Name, a_Id⟩ : LinkD) = (⟨b_Name, b_Id⟩ : LinkD)) :
    Calls Tryz.prog 74 #[.agg #[.string a_Name, i64 a_Id], .agg #[.string b_Name, i64 b_Id]] w fun e w' => e = .returned (.bool true) ∧ St w [] [] w' := by
 cases hab
 refine enter 15 Tryz.func74 rfl Tryz.ntmps74 rfl rfl ?_
 have hs1 := St.init w
 refine WC.sr (WL.bx hs1 rfl (fun b2 _ hs3 => WL.bx hs3 rfl (fun b4 _ hs5 => WL.r 1 hs5 [] rfl (WL.nil (WC.seq (fun K6 hK6 => WC.r1 hs5 [1, 0] rfl (WC.condF rfl (by simp) ?_)))))))
 refine WC.skip (hK6 _ _ (WC.seq (fun K8 hK8 => WC.r1 hs5 [1, 0] rfl (WC.condF rfl (by simp) (WC.skip (hK8 _ _ (WC.r1 hs5 [] rfl ?_)))))))
 refine WC.ret (rtv rfl rfl hs5 ?_)
 rfl
theorem k19_ (a_Kind : Int) (a_Name : ByteArray) (a_To : ByteArray) (a_Id : Int) (b_Kind : Int) (b_Name : ByteArray) (b_To : ByteArray) (b_Id : Int) (w : World) (hab : (⟨a_Kind, a_Name, a_To, a_Id⟩ : TurnD) = (⟨b_Kind, b_Name, b_To, b_Id⟩ : TurnD)) :
    Calls Tryz.prog 75 #[.agg #[i64 a_Kind, .string a_Name, .string a_To, i64 a_Id], .agg #[i64 b_Kind, .string b_Name, .string b_To, i64 b_Id]] w fun e w' => e = .returned (.bool true) ∧ St w [] [] w' := by
 cases hab
 refine enter 25 Tryz.func75 rfl Tryz.ntmps75 rfl rfl ?_
 have hs1 := St.init w
 refine WC.sr (WL.bx hs1 rfl (fun b2 _ hs3 => WL.bx hs3 rfl (fun b4 _ hs5 => WL.r 1 hs5 [] rfl (WL.nil (WC.seq (fun K6 hK6 => WC.r1 hs5 [1, 0] rfl (WC.condF rfl (by simp) ?_)))))))
 refine WC.skip (hK6 _ _ (WC.seq (fun K8 hK8 => WC.r1 hs5 [1, 0] rfl (WC.condF rfl (by simp) (WC.skip (hK8 _ _ (WC.seq (fun K10 hK10 => ?_))))))))
 refine WC.r1 hs5 [1, 0] rfl (WC.condF rfl (by simp) (WC.skip (hK10 _ _ (WC.seq (fun K12 hK12 => WC.r1 hs5 [1, 0] rfl (WC.condF rfl (by simp) (WC.skip ?_)))))))
 refine hK12 _ _ (WC.r1 hs5 [] rfl (WC.ret (rtv rfl rfl hs5 ?_)))
 rfl
theorem k20_ (A_a : Option Addr) (n_a c_a : Nat) (a : List FileR) (left : Int) (w : World) (f_a : SlN encFileR (okFileR 9223372036854775807) w A_a n_a a) (h1 : 0 ≤ left) (h2 : left ≤ 1048576) (h3 : n_a ≤ 9223372036854775807) :
    Calls Tryz.prog 15 #[.slice A_a n_a c_a, i64 left] w fun e w' => e = .returned (.int .i64 (szR left (tots totFile (a.map FileR.dat)))) ∧ St w [] [] w' := by
 have hl := f_a.sl.len
 have hT : (tots totFile (a.map FileR.dat) : Int) = n_a + (a.map (fun x => totFile (FileR.dat x))).sum := by rw [tots_map, hl]; omega
 refine enter 27 Tryz.func15 rfl Tryz.ntmps15 rfl rfl ?_
 have hs1 := St.init w
 refine WC.r1 hs1 [] rfl (WC.r1 hs1 [] rfl (WC.seq (fun K2 hK2 => WC.r1 hs1 [] rfl ?_)))
 refine WC.cD rfl (fun qh3 => ?_) (fun qh3 => ?_)
 ·refine WC.r1 hs1 [] rfl (WC.ret (tkR ?_))
  clear hK2
  refine rtv rfl rfl hs1 ?_
  rw [szR_lt (by omega)]
 refine WC.skip (hK2 _ _ (WC.seq (fun K4 hK4 => WC.r1 hs1 [] rfl (WC.block ?_))))
 refine WC.lS [0, 11] rfl hs1 (fun k_ f w' => ∃ (i : Nat) (q : Int), k_ = n_a - i ∧ (i ≤ n_a) ∧ (0 ≤ q) ∧ (q + n_a + ((a.take i).map (fun x => totFile (FileR.dat x))).sum = left) ∧ Sub [(5, .int .i64 i), (1, .int .i64 q)] f) ((fun (i : Nat) (q : Int) => n_a - i) (0) ((left - n_a))) ?_ ?_
 ·refine ⟨0, (left - n_a), rfl, ?_, ?_, ?_, ⟨rfl, rfl, trivial⟩⟩
  · exact Nat.zero_le _
  · omega
  · simp
 clear hs1
 rintro _ f w ⟨i, q, rfl, p0, p1, p2, hG⟩ hF hs5
 refine WC.sub _ (hG.app hF) ?_
 clear hG hF
 refine WC.seq (fun K6 hK6 => WC.r1 hs5 [] rfl ?_)
 refine WC.cD rfl (fun qh7 => ?_) (fun qh7 => ?_)
 ·have hs1 := sum_take (F := encFileR) (f := (fun x => totFile (FileR.dat x))) (l := a) (i := i) (by omega)
  have hs2 := sum_take_le (f := (fun x => totFile (FileR.dat x))) a (i + 1)
  refine WC.skip (hK6 _ _ (WC.seq (fun K8 hK8 => WC.block (WC.sr (WL.r 2 hs5 [] rfl ?_)))))
  refine WL.val rfl rfl rfl (Run.idxN Tryz.runUnderlying22 Tryz.sizeOf75 rfl rfl rfl ?_ ?_ ?_) ?_
  · exact SlF.some_ (SlF.st0 f_a.sl hs5)
  · omega
  · omega
  refine WL.val rfl rfl rfl (Run.loadA Tryz.isAgg75 Tryz.sizeOf75 rfl rfl (SlF.whole (SlF.st0 f_a.sl hs5) ?_)) ?_
  · omega
  refine WL.r 1 hs5 [] rfl (WL.cl Tryz.call48 rfl (k11_ (gat encFileR a i) _ _ (okFileR.st0 (SlN.nth f_a (by omega)) hs5) ?_ ?_) ?_)
  · first | assumption | omega
  · first | assumption | omega | exact szR_b (by assumption) (by omega) (by first | assumption | omega)
  rintro _ whs9 ⟨rfl, hs9⟩
  replace hs9 := hs5.call0 hs9
  refine ⟨_, rfl, WL.r 1 hs9 [] rfl (WL.nil (WC.r1 hs9 [] rfl (WC.cD rfl (fun qh10 => ?_) (fun qh10 => ?_))))⟩
  ·refine WC.r1 hs9 [] rfl (WC.ret (ibR (tkR (tkR (ibR (tkR ?_))))))
   clear hK8 hK4
   refine rtv rfl rfl hs9 ?_
   have h9 := szR_no qh10
   rw [szR_lt (by omega)]
  refine WC.skip (hK8 _ _ (WC.region (WL.r 3 hs9 [] rfl (WL.nil (tkN ?_)))))
  refine ⟨sbF rfl, hs9, _, ?_, i + 1, _, rfl, ?_, ?_, ?_, ⟨rfl, rfl, trivial⟩⟩
  · omega
  · omega
  · omega
  · have h9 := szR_ok qh10 (Int.natCast_nonneg _); omega
 refine WC.exit (hK4 _ _ (WC.r1 hs5 [] rfl (WC.ret (rtv rfl rfl hs5 ?_))))
 have h9 : a.take i = a := List.take_of_length_le (by omega)
 rw [h9] at p2
 rw [szR_le (by omega)]
 congr 1; omega
theorem k21_ (A_a : Option Addr) (n_a c_a : Nat) (a : List LinkD) (left : Int) (w : World) (f_a : SlF encLink w A_a n_a a) (h1 : 0 ≤ left) (h2 : left ≤ 1048576) (h3 : n_a ≤ 9223372036854775807) (hz : ∀ x, x ∈ a → smLink 9223372036854775807 x) :
    Calls Tryz.prog 16 #[.slice A_a n_a c_a, i64 left] w fun e w' => e = .returned (.int .i64 (szR left (tots totLink a))) ∧ St w [] [] w' := by
 have hl := f_a.len
 have hT : (tots totLink a : Int) = n_a + (a.map totLink).sum := by unfold tots; rw [hl]; omega
 refine enter 27 Tryz.func16 rfl Tryz.ntmps16 rfl rfl ?_
 have hs1 := St.init w
 refine WC.r1 hs1 [] rfl (WC.r1 hs1 [] rfl (WC.seq (fun K2 hK2 => WC.r1 hs1 [] rfl ?_)))
 refine WC.cD rfl (fun qh3 => ?_) (fun qh3 => ?_)
 ·refine WC.r1 hs1 [] rfl (WC.ret (tkR ?_))
  clear hK2
  refine rtv rfl rfl hs1 ?_
  rw [szR_lt (by omega)]
 refine WC.skip (hK2 _ _ (WC.seq (fun K4 hK4 => WC.r1 hs1 [] rfl (WC.block ?_))))
 refine WC.lS [0, 11] rfl hs1 (fun k_ f w' => ∃ (i : Nat) (q : Int), k_ = n_a - i ∧ (i ≤ n_a) ∧ (0 ≤ q) ∧ (q + n_a + ((a.take i).map totLink).sum = left) ∧ Sub [(5, .int .i64 i), (1, .int .i64 q)] f) ((fun (i : Nat) (q : Int) => n_a - i) (0) ((left - n_a))) ?_ ?_
 ·refine ⟨0, (left - n_a), rfl, ?_, ?_, ?_, ⟨rfl, rfl, trivial⟩⟩
  · exact Nat.zero_le _
  · omega
  · simp
 clear hs1
 rintro _ f w ⟨i, q, rfl, p0, p1, p2, hG⟩ hF hs5
 refine WC.sub _ (hG.app hF) ?_
 clear hG hF
 refine WC.seq (fun K6 hK6 => WC.r1 hs5 [] rfl ?_)
 refine WC.cD rfl (fun qh7 => ?_) (fun qh7 => ?_)
 ·have hs1 := sum_take (F := encLink) (f := totLink) (l := a) (i := i) (by omega)
  have hs2 := sum_take_le (f := totLink) a (i + 1)
  have hzi : (gat encLink a i).Name.size ≤ 9223372036854775807 := hz _ (gat_mem (F := encLink) (show i < a.length by omega))
  refine WC.skip (hK6 _ _ (WC.seq (fun K8 hK8 => WC.block (WC.sr (WL.r 2 hs5 [] rfl ?_)))))
  refine WL.val rfl rfl rfl (Run.idxN Tryz.runUnderlying23 Tryz.sizeOf78 rfl rfl rfl ?_ ?_ ?_) ?_
  · exact SlF.some_ (SlF.st0 f_a hs5)
  · omega
  · omega
  refine WL.val rfl rfl rfl (Run.loadA Tryz.isAgg78 Tryz.sizeOf78 rfl rfl (SlF.whole (SlF.st0 f_a hs5) ?_)) ?_
  · omega
  refine WL.r 1 hs5 [] rfl (WL.cl Tryz.call49 rfl (k13_ _ _ _ _ ?_ ?_ ?_) ?_)
  · first | assumption | omega
  · first | assumption | omega | exact szR_b (by assumption) (by omega) (by first | assumption | omega)
  · first | assumption | omega
  rintro _ whs9 ⟨rfl, hs9⟩
  replace hs9 := hs5.call0 hs9
  refine ⟨_, rfl, WL.r 1 hs9 [] rfl (WL.nil (WC.r1 hs9 [] rfl (WC.cD rfl (fun qh10 => ?_) (fun qh10 => ?_))))⟩
  ·refine WC.r1 hs9 [] rfl (WC.ret (ibR (tkR (tkR (ibR (tkR ?_))))))
   clear hK8 hK4
   refine rtv rfl rfl hs9 ?_
   have h9 := szR_no qh10
   (try simp only [totLink] at h9 hs1)
   rw [szR_lt (by omega)]
  refine WC.skip (hK8 _ _ (WC.region (WL.r 3 hs9 [] rfl (WL.nil (tkN ?_)))))
  refine ⟨sbF rfl, hs9, _, ?_, i + 1, _, rfl, ?_, ?_, ?_, ⟨rfl, rfl, trivial⟩⟩
  · omega
  · omega
  · omega
  · have h9 := szR_ok qh10 (Int.natCast_nonneg _); (try simp only [totLink] at h9 hs1 ⊢); omega
 refine WC.exit (hK4 _ _ (WC.r1 hs5 [] rfl (WC.ret (rtv rfl rfl hs5 ?_))))
 have h9 : a.take i = a := List.take_of_length_le (by omega)
 rw [h9] at p2
 rw [szR_le (by omega)]
 congr 1; omega
theorem k22_ (A_a : Option Addr) (n_a c_a : Nat) (a : List TurnD) (left : Int) (w : World) (f_a : SlF encTurn w A_a n_a a) (h1 : 0 ≤ left) (h2 : left ≤ 1048576) (h3 : n_a ≤ 9223372036854775807) (hz : ∀ x, x ∈ a → smTurn 9223372036854775807 x) :
    Calls Tryz.prog 17 #[.slice A_a n_a c_a, i64 left] w fun e w' => e = .returned (.int .i64 (szR left (tots totTurn a))) ∧ St w [] [] w' := by
 have hl := f_a.len
 have hT : (tots totTurn a : Int) = n_a + (a.map totTurn).sum := by unfold tots; rw [hl]; omega
 refine enter 27 Tryz.func17 rfl Tryz.ntmps17 rfl rfl ?_
 have hs1 := St.init w
 refine WC.r1 hs1 [] rfl (WC.r1 hs1 [] rfl (WC.seq (fun K2 hK2 => WC.r1 hs1 [] rfl ?_)))
 refine WC.cD rfl (fun qh3 => ?_) (fun qh3 => ?_)
 ·refine WC.r1 hs1 [] rfl (WC.ret (tkR ?_))
  clear hK2
  refine rtv rfl rfl hs1 ?_
  rw [szR_lt (by omega)]
 refine WC.skip (hK2 _ _ (WC.seq (fun K4 hK4 => WC.r1 hs1 [] rfl (WC.block ?_))))
 refine WC.lS [0, 11] rfl hs1 (fun k_ f w' => ∃ (i : Nat) (q : Int), k_ = n_a - i ∧ (i ≤ n_a) ∧ (0 ≤ q) ∧ (q + n_a + ((a.take i).map totTurn).sum = left) ∧ Sub [(5, .int .i64 i), (1, .int .i64 q)] f) ((fun (i : Nat) (q : Int) => n_a - i) (0) ((left - n_a))) ?_ ?_
 ·refine ⟨0, (left - n_a), rfl, ?_, ?_, ?_, ⟨rfl, rfl, trivial⟩⟩
  · exact Nat.zero_le _
  · omega
  · simp
 clear hs1
 rintro _ f w ⟨i, q, rfl, p0, p1, p2, hG⟩ hF hs5
 refine WC.sub _ (hG.app hF) ?_
 clear hG hF
 refine WC.seq (fun K6 hK6 => WC.r1 hs5 [] rfl ?_)
 refine WC.cD rfl (fun qh7 => ?_) (fun qh7 => ?_)
 ·have hs1 := sum_take (F := encTurn) (f := totTurn) (l := a) (i := i) (by omega)
  have hs2 := sum_take_le (f := totTurn) a (i + 1)
  obtain ⟨hzi0, hzi1⟩ := hz _ (gat_mem (F := encTurn) (show i < a.length by omega))
  refine WC.skip (hK6 _ _ (WC.seq (fun K8 hK8 => WC.block (WC.sr (WL.r 2 hs5 [] rfl ?_)))))
  refine WL.val rfl rfl rfl (Run.idxN Tryz.runUnderlying24 Tryz.sizeOf80 rfl rfl rfl ?_ ?_ ?_) ?_
  · exact SlF.some_ (SlF.st0 f_a hs5)
  · omega
  · omega
  refine WL.val rfl rfl rfl (Run.loadA Tryz.isAgg80 Tryz.sizeOf80 rfl rfl (SlF.whole (SlF.st0 f_a hs5) ?_)) ?_
  · omega
  refine WL.r 1 hs5 [] rfl (WL.cl Tryz.call50 rfl (k14_ _ _ _ _ _ _ ?_ ?_ ?_ ?_) ?_)
  · first | assumption | omega
  · first | assumption | omega | exact szR_b (by assumption) (by omega) (by first | assumption | omega)
  iterate 2 first | assumption | omega
  rintro _ whs9 ⟨rfl, hs9⟩
  replace hs9 := hs5.call0 hs9
  refine ⟨_, rfl, WL.r 1 hs9 [] rfl (WL.nil (WC.r1 hs9 [] rfl (WC.cD rfl (fun qh10 => ?_) (fun qh10 => ?_))))⟩
  ·refine WC.r1 hs9 [] rfl (WC.ret (ibR (tkR (tkR (ibR (tkR ?_))))))
   clear hK8 hK4
   refine rtv rfl rfl hs9 ?_
   have h9 := szR_no qh10
   (try simp only [totTurn] at h9 hs1)
   rw [szR_lt (by omega)]
  refine WC.skip (hK8 _ _ (WC.region (WL.r 3 hs9 [] rfl (WL.nil (tkN ?_)))))
  refine ⟨sbF rfl, hs9, _, ?_, i + 1, _, rfl, ?_, ?_, ?_, ⟨rfl, rfl, trivial⟩⟩
  · omega
  · omega
  · omega
  · have h9 := szR_ok qh10 (Int.natCast_nonneg _); (try simp only [totTurn] at h9 hs1 ⊢); omega
 refine WC.exit (hK4 _ _ (WC.r1 hs5 [] rfl (WC.ret (rtv rfl rfl hs5 ?_))))
 have h9 : a.take i = a := List.take_of_length_le (by omega)
 rw [h9] at p2
 rw [szR_le (by omega)]
 congr 1; omega
theorem k23_ (A_a : Option Addr) (n_a c_a : Nat) (a : List FileR) (w : World) (f_a : SlN encFileR (okFileR 549755813888) w A_a n_a a) (hn : n_a ≤ 549755813888) :
    Calls Tryz.prog 28 #[.slice A_a n_a c_a] w fun e w' => ∃ A c xs L1, e = .returned (.slice A n_a c) ∧ St w [] L1 w' ∧ OwnN encFileR ownFileR 58 (.slice A n_a c) xs L1 ∧ xs.map FileR.dat = a.map FileR.dat := by
 have hl := f_a.sl.len
 refine enter 23 Tryz.func28 rfl Tryz.ntmps28 rfl rfl ?_
 have hs1 := St.init w
 refine WC.r1 hs1 [] rfl (WC.sr (WL.r 2 hs1 [] rfl (WL.makeF (F := encFileR) hs1 Tryz.underlying32 inf58 rfl rfl rfl rfl rfl rfl rfl rfl rfl ?_ ?_ (fun A5 c6 L2 whs3 hs3 ho4 => ?_))))
 · have e_ : Tryz.t58.bytes = 40 := rfl
   rw [e_]; omega
 · omega
 obtain ⟨L7, hs8, ho9⟩ := OwnN.new (own := ownFileR) hs3 ho4 (OwnF.nil _ _)
 refine WL.r 1 hs8 [] rfl (WL.nil (WC.seq (fun K10 hK10 => WC.r1 hs8 [] rfl (WC.block ?_))))
 refine WC.lO [0, 2] rfl hs8 (fun k_ f L_ => ∃ (i : Nat) (ys : List FileR) (A11 : Option Addr) (c12 : Nat), k_ = n_a - i ∧ (i ≤ n_a) ∧ (ys.length = i) ∧ (ys.map FileR.dat = (a.take i).map FileR.dat) ∧ OwnN encFileR ownFileR 58 (.slice A11 (n_a) c12) (ys ++ List.replicate (n_a - i) encFileR.dflt) L_ ∧ Sub [(3, .slice A11 (n_a) c12), (4, .int .i64 i)] f) (((fun (i : Nat) (ys : List FileR) => n_a - i) (0) ([]))) ?_ ?_
 ·refine ⟨0, [], _, _, rfl, ?_, ?_, ?_, (by simpa using ho9), ⟨rfl, rfl, trivial⟩⟩
  · exact Nat.zero_le _
  · rfl
  · rfl
 clear hs8
 rintro _ f w L13 ⟨i, ys, A11, c12, rfl, p0, p1, p2, ho14, hG⟩ hF hs15
 refine WC.sub _ (hG.app hF) ?_
 clear hG hF
 have hlen : (ys ++ List.replicate (n_a - i) encFileR.dflt).length = n_a := by simp; omega
 refine WC.seq (fun K16 hK16 => WC.r1 hs15 [] rfl ?_)
 refine WC.cq rfl (fun h17 qh17 => ?_) (fun h17 qh17 => ?_)
 ·refine WC.skip (hK16 _ _ (WC.seq (fun K18 hK18 => WC.block (WC.region (WL.r 4 hs15 [] rfl ?_)))))
  refine WL.val rfl rfl rfl (Run.idxN Tryz.runUnderlying22 Tryz.sizeOf75 rfl rfl rfl ?_ ?_ ?_) ?_
  · exact SlF.some_ (SlF.st0 f_a.sl hs15)
  · omega
  · omega
  refine WL.val rfl rfl rfl (Run.loadA Tryz.isAgg75 Tryz.sizeOf75 rfl rfl (SlF.whole (SlF.st0 f_a.sl hs15) ?_)) ?_
  · omega
  refine WL.cl Tryz.call57 rfl (k12_ (gat encFileR a i) _ (okFileR.st0 (SlN.nth f_a (by omega)) hs15)) ?_
  rintro _ whs19 ⟨r20, L1_21, rfl, hs19, ho22, hd23⟩
  replace hs19 := hs15.callF hs19
  refine ⟨_, rfl, WL.val rfl rfl rfl (Run.idxN Tryz.runUnderlying32 Tryz.sizeOf58 rfl rfl rfl ?_ ?_ ?_) ?_⟩
  · exact SlF.some_ (OwnN.sl ho14 (hs19.ow L13))
  · omega
  · omega
  obtain ⟨L24, L25, hs28, ho26, ho27⟩ := OwnN.open_ (hs19.fr L13) ho14
  refine WL.storeF1 (x' := r20) hs28 ho26 Tryz.sizeOf58 rfl rfl rfl rfl rfl rfl rfl rfl rfl ?_ rfl (fun L29 whs30 hs30 ho31 _ => ?_)
  · omega
  obtain ⟨L32, hs34, hb33⟩ := Bag.replace (r := r20) (i := i) ((hs30.fr L1_21).fr L25) ho27 (by omega) ho22
  refine WL.nil (hK18 _ _ (WC.region (WL.r 3 hs34 [] rfl (WL.nil (tkN ?_)))))
  obtain ⟨L36, hs35, ho37⟩ := OwnN.fold (hs34.fr L29) ho31 hb33
  rw [set_at p1 (by omega)] at ho37
  refine ⟨sbF rfl, _, hs35, _, ?_, i + 1, (ys ++ [r20]), _, _, rfl, ?_, ?_, ?_, ho37, ⟨rfl, rfl, trivial⟩⟩
  · omega
  · omega
  · simp; omega
  · rw [List.map_append, p2, map_take_succ (F := encFileR) (by omega)]; congr 1 <;> simp only [List.map_cons, List.map_nil] <;> congr 1 <;> assumption
 refine WC.exit (hK10 _ _ (WC.r1 hs15 [] rfl (WC.ret (retV1 rfl (resV.tmp rfl) ?_))))
 have hi_ : i = n_a := by omega
 subst hi_
 have hx_ := ho14
 simp only [Nat.sub_self, List.replicate_zero, List.append_nil] at hx_
 exact ⟨_, _, ys, _, rfl, (St.keep1 hs15), hx_, by rw [p2, List.take_of_length_le (by omega)]⟩
theorem k24_ (A_a : Option Addr) (n_a c_a : Nat) (a : List LinkD) (w : World) (f_a : SlF encLink w A_a n_a a) (hn : n_a ≤ 1099511627776) :
    Calls Tryz.prog 29 #[.slice A_a n_a c_a] w fun e w' => ∃ A c L1, e = .returned (.slice A (a).length c) ∧ St w [] L1 w' ∧ OwnF encLink 82 (.slice A (a).length c) (a) L1 := by
 refine enter 23 Tryz.func29 rfl Tryz.ntmps29 rfl rfl ?_
 have hs1 := St.init w
 refine WC.r1 hs1 [] rfl (WC.sr (WL.r 2 hs1 [] rfl (WL.makeF (F := encLink) hs1 Tryz.underlying33 inf82 rfl rfl rfl rfl rfl rfl rfl rfl rfl ?_ ?_ (fun A5 c6 L2 whs3 hs3 ho4 => ?_))))
 · have e_ : Tryz.t82.bytes = 24 := rfl
   rw [e_]; omega
 · omega
 refine WL.r 1 hs3 [] rfl (WL.nil (WC.seq (fun K7 hK7 => WC.r1 hs3 [] rfl (WC.block ?_))))
 refine WC.lO [0, 2] rfl hs3 (fun k_ f L_ => ∃ (i : Nat) (A8 : Option Addr) (c9 : Nat), k_ = n_a - i ∧ (i ≤ n_a) ∧ OwnF encLink 82 (.slice A8 (n_a) c9) (fillG encLink a i) L_ ∧ Sub [(3, .slice A8 (n_a) c9), (4, .int .i64 i)] f) (((fun (i : Nat) => n_a - i) (0))) ?_ ?_
 ·refine ⟨0, _, _, rfl, ?_, (fillG_zero f_a.len ▸ ho4), ⟨rfl, rfl, trivial⟩⟩
  · exact Nat.zero_le _
 clear hs3
 rintro _ f w L10 ⟨i, A8, c9, rfl, p0, ho11, hG⟩ hF hs12
 refine WC.sub _ (hG.app hF) ?_
 clear hG hF
 refine WC.seq (fun K13 hK13 => WC.r1 hs12 [] rfl ?_)
 refine WC.cq rfl (fun h14 qh14 => ?_) (fun h14 qh14 => ?_)
 ·refine WC.skip (hK13 _ _ (WC.seq (fun K15 hK15 => WC.block (WC.region (WL.r 4 hs12 [] rfl ?_)))))
  refine WL.val rfl rfl rfl (Run.idxN Tryz.runUnderlying23 Tryz.sizeOf78 rfl rfl rfl ?_ ?_ ?_) ?_
  · exact SlF.some_ (SlF.st0 f_a hs12)
  · omega
  · omega
  refine WL.val rfl rfl rfl (Run.loadA Tryz.isAgg78 Tryz.sizeOf78 rfl rfl (SlF.whole (SlF.st0 f_a hs12) ?_)) ?_
  · omega
  refine WL.cl Tryz.call58 rfl (k15_ _ _ _) ?_
  rintro _ whs16 ⟨rfl, hs16⟩
  replace hs16 := hs12.call0 hs16
  refine ⟨_, rfl, WL.val rfl rfl rfl (Run.idxN Tryz.runUnderlying33 Tryz.sizeOf82 rfl rfl rfl ?_ ?_ ?_) ?_⟩
  · exact SlF.some_ (SlF.ofOwn ho11 (hs16.ow L10))
  · omega
  · omega
  refine WL.storeF1 (x' := _) hs16 ho11 Tryz.sizeOf82 rfl rfl rfl rfl rfl rfl rfl rfl rfl ?_ rfl (fun L17 whs18 hs18 ho19 _ => ?_)
  · omega
  refine WL.nil (hK15 _ _ (WC.region (WL.r 3 hs18 [] rfl (WL.nil (tkN ?_)))))
  rw [fillG_set (i := i) (by rw [f_a.len]; omega) (by simp) (by simp)] at ho19
  refine ⟨sbF rfl, _, hs18, _, ?_, i + 1, _, _, rfl, ?_, ho19, ⟨rfl, rfl, trivial⟩⟩
  · omega
  · omega
 refine WC.exit (hK7 _ _ (WC.r1 hs12 [] rfl (WC.ret (retV1 rfl (resV.tmp rfl) ?_))))
 have hx_ := OwnF.eqOf (xs := a) ho11 (fillG_full (by rw [f_a.len]; omega))
 have hy_ := ho11
 rw [hx_] at hy_
 obtain ⟨A_, c_, hz_⟩ := hy_.shape
 exact ⟨A_, c_, _, congrArg Ending.returned hz_, (St.keep1 hs12), hz_ ▸ hy_⟩
theorem k25_ (A_a : Option Addr) (n_a c_a : Nat) (a : List TurnD) (w : World) (f_a : SlF encTurn w A_a n_a a) (hn : n_a ≤ 1099511627776) :
    Calls Tryz.prog 30 #[.slice A_a n_a c_a] w fun e w' => ∃ A c L1, e = .returned (.slice A (a).length c) ∧ St w [] L1 w' ∧ OwnF encTurn 60 (.slice A (a).length c) (a) L1 := by
 refine enter 23 Tryz.func30 rfl Tryz.ntmps30 rfl rfl ?_
 have hs1 := St.init w
 refine WC.r1 hs1 [] rfl (WC.sr (WL.r 2 hs1 [] rfl (WL.makeF (F := encTurn) hs1 Tryz.underlying34 inf60 rfl rfl rfl rfl rfl rfl rfl rfl rfl ?_ ?_ (fun A5 c6 L2 whs3 hs3 ho4 => ?_))))
 · have e_ : Tryz.t60.bytes = 48 := rfl
   rw [e_]; omega
 · omega
 refine WL.r 1 hs3 [] rfl (WL.nil (WC.seq (fun K7 hK7 => WC.r1 hs3 [] rfl (WC.block ?_))))
 refine WC.lO [0, 2] rfl hs3 (fun k_ f L_ => ∃ (i : Nat) (A8 : Option Addr) (c9 : Nat), k_ = n_a - i ∧ (i ≤ n_a) ∧ OwnF encTurn 60 (.slice A8 (n_a) c9) (fillG encTurn a i) L_ ∧ Sub [(3, .slice A8 (n_a) c9), (4, .int .i64 i)] f) (((fun (i : Nat) => n_a - i) (0))) ?_ ?_
 ·refine ⟨0, _, _, rfl, ?_, (fillG_zero f_a.len ▸ ho4), ⟨rfl, rfl, trivial⟩⟩
  · exact Nat.zero_le _
 clear hs3
 rintro _ f w L10 ⟨i, A8, c9, rfl, p0, ho11, hG⟩ hF hs12
 refine WC.sub _ (hG.app hF) ?_
 clear hG hF
 refine WC.seq (fun K13 hK13 => WC.r1 hs12 [] rfl ?_)
 refine WC.cq rfl (fun h14 qh14 => ?_) (fun h14 qh14 => ?_)
 ·refine WC.skip (hK13 _ _ (WC.seq (fun K15 hK15 => WC.block (WC.region (WL.r 4 hs12 [] rfl ?_)))))
  refine WL.val rfl rfl rfl (Run.idxN Tryz.runUnderlying24 Tryz.sizeOf80 rfl rfl rfl ?_ ?_ ?_) ?_
  · exact SlF.some_ (SlF.st0 f_a hs12)
  · omega
  · omega
  refine WL.val rfl rfl rfl (Run.loadA Tryz.isAgg80 Tryz.sizeOf80 rfl rfl (SlF.whole (SlF.st0 f_a hs12) ?_)) ?_
  · omega
  refine WL.cl Tryz.call59 rfl (k16_ _ _ _ _ _) ?_
  rintro _ whs16 ⟨rfl, hs16⟩
  replace hs16 := hs12.call0 hs16
  refine ⟨_, rfl, WL.val rfl rfl rfl (Run.idxN Tryz.runUnderlying34 Tryz.sizeOf60 rfl rfl rfl ?_ ?_ ?_) ?_⟩
  · exact SlF.some_ (SlF.ofOwn ho11 (hs16.ow L10))
  · omega
  · omega
  refine WL.storeF1 (x' := _) hs16 ho11 Tryz.sizeOf60 rfl rfl rfl rfl rfl rfl rfl rfl rfl ?_ rfl (fun L17 whs18 hs18 ho19 _ => ?_)
  · omega
  refine WL.nil (hK15 _ _ (WC.region (WL.r 3 hs18 [] rfl (WL.nil (tkN ?_)))))
  rw [fillG_set (i := i) (by rw [f_a.len]; omega) (by simp) (by simp)] at ho19
  refine ⟨sbF rfl, _, hs18, _, ?_, i + 1, _, _, rfl, ?_, ho19, ⟨rfl, rfl, trivial⟩⟩
  · omega
  · omega
 refine WC.exit (hK7 _ _ (WC.r1 hs12 [] rfl (WC.ret (retV1 rfl (resV.tmp rfl) ?_))))
 have hx_ := OwnF.eqOf (xs := a) ho11 (fillG_full (by rw [f_a.len]; omega))
 have hy_ := ho11
 rw [hx_] at hy_
 obtain ⟨A_, c_, hz_⟩ := hy_.shape
 exact ⟨A_, c_, _, congrArg Ending.returned hz_, (St.keep1 hs12), hz_ ▸ hy_⟩
theorem k26_ (A_a : Option Addr) (n_a c_a : Nat) (a : List FileR) (A_b : Option Addr) (n_b c_b : Nat) (b : List FileR) (w : World) (f_a : SlN encFileR (okFileR 549755813888) w A_a n_a a) (f_b : SlN encFileR (okFileR 549755813888) w A_b n_b b) (hn : n_a ≤ 549755813888) (hab : a.map FileR.dat = b.map FileR.dat) :
    Calls Tryz.prog 37 #[.slice A_a n_a c_a, .slice A_b n_b c_b] w fun e w' => e = .returned (.bool true) ∧ St w [] [] w' := by
 have hla := f_a.sl.len
 obtain rfl : n_a = n_b := by have h9 := congrArg List.length hab; simp only [List.length_map] at h9; rw [← hla, h9]; exact f_b.sl.len
 refine enter 27 Tryz.func37 rfl Tryz.ntmps37 rfl rfl ?_
 have hs1 := St.init w
 refine WC.r1 hs1 [] rfl (WC.seq (fun K2 hK2 => WC.r1 hs1 [] rfl (WC.condF rfl (by simp) (WC.skip (hK2 _ _ (WC.seq (fun K4 hK4 => WC.r1 hs1 [] rfl ?_)))))))
 refine WC.block (WC.lS [0, 1, 10] rfl hs1 (fun k_ f w' => ∃ (i : Nat), k_ = n_a - i ∧ (i ≤ n_a) ∧ Sub [(5, .int .i64 i)] f) ((fun (i : Nat) => n_a - i) (0)) ?_ ?_)
 ·refine ⟨0, rfl, ?_, ⟨rfl, trivial⟩⟩
  · exact Nat.zero_le _
 clear hs1
 rintro _ f w ⟨i, rfl, p0, hG⟩ hF hs5
 refine WC.sub _ (hG.app hF) ?_
 clear hG hF
 refine WC.seq (fun K6 hK6 => WC.r1 hs5 [] rfl ?_)
 refine WC.cD rfl (fun qh7 => ?_) (fun qh7 => ?_)
 ·have hab_ := gat_dat (F := encFileR) (i := i) hab (by omega)
  refine WC.skip (hK6 _ _ (WC.seq (fun K8 hK8 => WC.block (WC.sq1 hs5 (WQ.r 2 [] rfl ?_)))))
  refine WQ.val rfl rfl rfl (fun w_ hs_ => (Run.idxN Tryz.runUnderlying32 Tryz.sizeOf58 rfl rfl rfl ?_ ?_ ?_)) ?_
  · exact SlF.some_ (SlF.st0 f_a.sl (hs_ : St _ _ _ _))
  · omega
  · omega
  refine WQ.val rfl rfl rfl (fun w_ hs_ => (Run.loadA Tryz.isAgg58 Tryz.sizeOf58 rfl rfl (SlF.whole (SlF.st0 f_a.sl (hs_ : St _ _ _ _)) ?_))) ?_
  · omega
  refine WQ.r 2 [] rfl ?_
  refine WQ.val rfl rfl rfl (fun w_ hs_ => (Run.idxN Tryz.runUnderlying32 Tryz.sizeOf58 rfl rfl rfl ?_ ?_ ?_)) ?_
  · exact SlF.some_ (SlF.st0 f_b.sl (hs_ : St _ _ _ _))
  · omega
  · omega
  refine WQ.val rfl rfl rfl (fun w_ hs_ => (Run.loadA Tryz.isAgg58 Tryz.sizeOf58 rfl rfl (SlF.whole (SlF.st0 f_b.sl (hs_ : St _ _ _ _)) ?_))) ?_
  · omega
  refine WQ.call rfl rfl rfl (fun w_ hs_ => (Run.call Tryz.call73 rfl rfl rfl)) (fun w_ hs_ => (k17_ (gat encFileR a i) (gat encFileR b i) _ (okFileR.st0 (SlN.nth f_a (by omega)) (hs_ : St _ _ _ _)) (okFileR.st0 (SlN.nth f_b (by omega)) (hs_ : St _ _ _ _)) ?_).mono fun e_ w_ h_ => ⟨h_.1, (hs_ : St _ _ _ _).call0 h_.2⟩) ?_
  · first | assumption | rfl | omega
  refine WQ.r 1 [] rfl (WQ.nil (fun _ (hs9 : St _ _ _ _) => WC.condF rfl (by simp) (WC.skip (hK8 _ _ (WC.region (WL.r 3 hs9 [] rfl (WL.nil ?_)))))))
  refine tkN (⟨sbF rfl, hs9, _, ?_, i + 1, rfl, ?_, ⟨rfl, trivial⟩⟩)
  · omega
  · omega
 refine WC.exit (hK4 _ _ (WC.r1 hs5 [] rfl (WC.ret (rtv rfl rfl hs5 ?_))))
 rfl
theorem k27_ (A_a : Option Addr) (n_a c_a : Nat) (a : List LinkD) (A_b : Option Addr) (n_b c_b : Nat) (b : List LinkD) (w : World) (f_a : SlF encLink w A_a n_a a) (f_b : SlF encLink w A_b n_b b) (hn : n_a ≤ 1099511627776) (hab : a = b) :
    Calls Tryz.prog 38 #[.slice A_a n_a c_a, .slice A_b n_b c_b] w fun e w' => e = .returned (.bool true) ∧ St w [] [] w' := by
 subst hab
 obtain rfl : n_a = n_b := f_a.len.symm.trans f_b.len
 refine enter 27 Tryz.func38 rfl Tryz.ntmps38 rfl rfl ?_
 have hs1 := St.init w
 refine WC.r1 hs1 [] rfl (WC.seq (fun K2 hK2 => WC.r1 hs1 [] rfl (WC.condF rfl (by simp) (WC.skip (hK2 _ _ (WC.seq (fun K4 hK4 => WC.r1 hs1 [] rfl ?_)))))))
 refine WC.block (WC.lS [0, 1, 10] rfl hs1 (fun k_ f w' => ∃ (i : Nat), k_ = n_a - i ∧ (i ≤ n_a) ∧ Sub [(5, .int .i64 i)] f) ((fun (i : Nat) => n_a - i) (0)) ?_ ?_)
 ·refine ⟨0, rfl, ?_, ⟨rfl, trivial⟩⟩
  · exact Nat.zero_le _
 clear hs1
 rintro _ f w ⟨i, rfl, p0, hG⟩ hF hs5
 refine WC.sub _ (hG.app hF) ?_
 clear hG hF
 refine WC.seq (fun K6 hK6 => WC.r1 hs5 [] rfl ?_)
 refine WC.cD rfl (fun qh7 => ?_) (fun qh7 => ?_)
 ·refine WC.skip (hK6 _ _ (WC.seq (fun K8 hK8 => WC.block (WC.sq1 hs5 (WQ.r 2 [] rfl ?_)))))
  refine WQ.val rfl rfl rfl (fun w_ hs_ => (Run.idxN Tryz.runUnderlying33 Tryz.sizeOf82 rfl rfl rfl ?_ ?_ ?_)) ?_
  · exact SlF.some_ (SlF.st0 f_a (hs_ : St _ _ _ _))
  · omega
  · omega
  refine WQ.val rfl rfl rfl (fun w_ hs_ => (Run.loadA Tryz.isAgg82 Tryz.sizeOf82 rfl rfl (SlF.whole (SlF.st0 f_a (hs_ : St _ _ _ _)) ?_))) ?_
  · omega
  refine WQ.r 2 [] rfl ?_
  refine WQ.val rfl rfl rfl (fun w_ hs_ => (Run.idxN Tryz.runUnderlying33 Tryz.sizeOf82 rfl rfl rfl ?_ ?_ ?_)) ?_
  · exact SlF.some_ (SlF.st0 f_b (hs_ : St _ _ _ _))
  · omega
  · omega
  refine WQ.val rfl rfl rfl (fun w_ hs_ => (Run.loadA Tryz.isAgg82 Tryz.sizeOf82 rfl rfl (SlF.whole (SlF.st0 f_b (hs_ : St _ _ _ _)) ?_))) ?_
  · omega
  refine WQ.call rfl rfl rfl (fun w_ hs_ => (Run.call Tryz.call74 rfl rfl rfl)) (fun w_ hs_ => (k18_ _ _ _ _ _ ?_).mono fun e_ w_ h_ => ⟨h_.1, (hs_ : St _ _ _ _).call0 h_.2⟩) ?_
  · first | assumption | rfl | omega
  refine WQ.r 1 [] rfl (WQ.nil (fun _ (hs9 : St _ _ _ _) => WC.condF rfl (by simp) (WC.skip (hK8 _ _ (WC.region (WL.r 3 hs9 [] rfl (WL.nil ?_)))))))
  refine tkN (⟨sbF rfl, hs9, _, ?_, i + 1, rfl, ?_, ⟨rfl, trivial⟩⟩)
  · omega
  · omega
 refine WC.exit (hK4 _ _ (WC.r1 hs5 [] rfl (WC.ret (rtv rfl rfl hs5 ?_))))
 rfl
theorem k28_ (A_a : Option Addr) (n_a c_a : Nat) (a : List TurnD) (A_b : Option Addr) (n_b c_b : Nat) (b : List TurnD) (w : World) (f_a : SlF encTurn w A_a n_a a) (f_b : SlF encTurn w A_b n_b b) (hn : n_a ≤ 1099511627776) (hab : a = b) :
    Calls Tryz.prog 39 #[.slice A_a n_a c_a, .slice A_b n_b c_b] w fun e w' => e = .returned (.bool true) ∧ St w [] [] w' := by
 subst hab
 obtain rfl : n_a = n_b := f_a.len.symm.trans f_b.len
 refine enter 27 Tryz.func39 rfl Tryz.ntmps39 rfl rfl ?_
 have hs1 := St.init w
 refine WC.r1 hs1 [] rfl (WC.seq (fun K2 hK2 => WC.r1 hs1 [] rfl (WC.condF rfl (by simp) (WC.skip (hK2 _ _ (WC.seq (fun K4 hK4 => WC.r1 hs1 [] rfl ?_)))))))
 refine WC.block (WC.lS [0, 1, 10] rfl hs1 (fun k_ f w' => ∃ (i : Nat), k_ = n_a - i ∧ (i ≤ n_a) ∧ Sub [(5, .int .i64 i)] f) ((fun (i : Nat) => n_a - i) (0)) ?_ ?_)
 ·refine ⟨0, rfl, ?_, ⟨rfl, trivial⟩⟩
  · exact Nat.zero_le _
 clear hs1
 rintro _ f w ⟨i, rfl, p0, hG⟩ hF hs5
 refine WC.sub _ (hG.app hF) ?_
 clear hG hF
 refine WC.seq (fun K6 hK6 => WC.r1 hs5 [] rfl ?_)
 refine WC.cD rfl (fun qh7 => ?_) (fun qh7 => ?_)
 ·refine WC.skip (hK6 _ _ (WC.seq (fun K8 hK8 => WC.block (WC.sq1 hs5 (WQ.r 2 [] rfl ?_)))))
  refine WQ.val rfl rfl rfl (fun w_ hs_ => (Run.idxN Tryz.runUnderlying34 Tryz.sizeOf60 rfl rfl rfl ?_ ?_ ?_)) ?_
  · exact SlF.some_ (SlF.st0 f_a (hs_ : St _ _ _ _))
  · omega
  · omega
  refine WQ.val rfl rfl rfl (fun w_ hs_ => (Run.loadA Tryz.isAgg60 Tryz.sizeOf60 rfl rfl (SlF.whole (SlF.st0 f_a (hs_ : St _ _ _ _)) ?_))) ?_
  · omega
  refine WQ.r 2 [] rfl ?_
  refine WQ.val rfl rfl rfl (fun w_ hs_ => (Run.idxN Tryz.runUnderlying34 Tryz.sizeOf60 rfl rfl rfl ?_ ?_ ?_)) ?_
  · exact SlF.some_ (SlF.st0 f_b (hs_ : St _ _ _ _))
  · omega
  · omega
  refine WQ.val rfl rfl rfl (fun w_ hs_ => (Run.loadA Tryz.isAgg60 Tryz.sizeOf60 rfl rfl (SlF.whole (SlF.st0 f_b (hs_ : St _ _ _ _)) ?_))) ?_
  · omega
  refine WQ.call rfl rfl rfl (fun w_ hs_ => (Run.call Tryz.call75 rfl rfl rfl)) (fun w_ hs_ => (k19_ _ _ _ _ _ _ _ _ _ ?_).mono fun e_ w_ h_ => ⟨h_.1, (hs_ : St _ _ _ _).call0 h_.2⟩) ?_
  · first | assumption | rfl | omega
  refine WQ.r 1 [] rfl (WQ.nil (fun _ (hs9 : St _ _ _ _) => WC.condF rfl (by simp) (WC.skip (hK8 _ _ (WC.region (WL.r 3 hs9 [] rfl (WL.nil ?_)))))))
  refine tkN (⟨sbF rfl, hs9, _, ?_, i + 1, rfl, ?_, ⟨rfl, trivial⟩⟩)
  · omega
  · omega
 refine WC.exit (hK4 _ _ (WC.r1 hs5 [] rfl (WC.ret (rtv rfl rfl hs5 ?_))))
 rfl
end Go.Proofs.YtgpdnpilglgklaaGreat
