/-
  What the proof stands on, part 2.
-/
import Derived.Test.YtjmegoiclgancaaKA1
namespace Go.Proofs.Ytjmegoiclgancaa
open Go Go.RowKit
set_option linter.unusedVariables false
set_option linter.unusedSimpArgs false
def Closed (ops : Array Oper) (listed : Array Bool) : Prop := ∀ m o, ops[m]? = some o → listed.getD m false = true → ∀ e ∈ o.after, Region.binds .any e = true → listed.getD e.on false = true
def needsB (ol : List Oper) : Nat → Nat → Nat → Bool
 | 0, _, _ => false
 | fuel + 1, k, i => match nthO ol k with
  | some o => o.after.toList.any fun e => Region.binds .any e && (Nat.beq e.on i || needsB ol fuel e.on i)
  | none => false
def closedB (ol : List Oper) (listed : List Bool) : Bool := (List.range ol.length).all fun m => !(listed.toArray.getD m false) || match nthO ol m with
 | some o => o.after.toList.all fun e => !Region.binds .any e || listed.toArray.getD e.on false
 | none => true
def takesT (ol : List Oper) (listed : List Bool) (k i : Nat) : Bool := canTake ol listed i && (needsB ol ol.length k i && (closedB ol listed && !Nat.beq i k))
section
variable {P : Program} {Q : Exit → Act → World → Prop} {S S1 : World → Prop} {k : Nat} {ol : List Oper}
theorem nth_arr {m : Nat} {o : Oper} : ol.toArray[m]? = some o ↔ nthO ol m = some o := by rw [List.getElem?_toArray, ← nthO_eq]
theorem closed_of {listed : List Bool} (h : closedB ol listed = true) : Closed ol.toArray listed.toArray := fun m o ho hl e he hb => by
 unfold closedB at h
 rw [List.all_eq_true] at h
 have hm : m < ol.length := by
  have := (Array.getElem?_eq_some_iff.1 ho).1
  simpa using this
 have h1 := h m (List.mem_range.2 hm)
 rw [hl, nth_arr.1 ho] at h1
 simp only [Bool.not_true, Bool.false_or, List.all_eq_true] at h1
 have h2 := h1 e (Array.mem_toList_iff.2 he)
 rw [hb] at h2
 simpa using h2
theorem needs_listed {listed : Array Bool} (hc : Closed ol.toArray listed) {i : Nat} : ∀ (fuel x : Nat), (∀ o, nthO ol x = some o → ∀ e ∈ o.after, Region.binds .any e = true → listed.getD e.on false = true) → needsB ol fuel x i = true → listed.getD i false = true
 | 0, _, _, h => by cases h
 | fuel + 1, x, hx, h => by
  unfold needsB at h
  split at h
  ·rename_i o ho
   rw [List.any_eq_true] at h
   obtain ⟨e, he, h1⟩ := h
   rw [Bool.and_eq_true, Bool.or_eq_true] at h1
   have h2 := hx o ho e (Array.mem_toList_iff.1 he) h1.1
   rcases h1.2 with h3 | h3
   ·rw [Nat.eq_of_beq_eq_true h3] at h2; exact h2
   ·exact needs_listed hc fuel e.on (fun o' ho' => hc e.on o' (nth_arr.2 ho') h2) h3
  ·cases h
theorem Closed.set {ops : Array Oper} {listed : Array Bool} (hc : Closed ops listed) {j : Nat} (hj : j ∈ Region.ready .any ops listed) : Closed ops (listed.setIfInBounds j true) := fun m o ho hl e he hb => by
 obtain ⟨_, oj, hoj, hall⟩ := mem_ready.1 hj
 by_cases hm : m = j
 ·subst hm
  rw [hoj] at ho; cases ho
  exact getD_set_true (hall e he hb)
 ·have h1 : listed.getD m false = true := by
   rwa [getD_set_ne false (Ne.symm hm)] at hl
  exact getD_set_true (hc m o ho h1 e he hb)
theorem wpAnyG_firstT {i : Nat} {oi : Oper} {v : Value} (hi : ol.toArray[i]? = some oi) (hneed : needsB ol ol.length k i = true) (hik : i ≠ k) (hsel : ∀ (j : Nat) (o : Oper) cs b, ol.toArray[j]? = some o → o.op ≠ .select cs b)
  (hQ : ∀ c a w, Q (.panic c) (a.put oi.dst v) w → Q (.panic c) a w) :
  ∀ (fuel : Nat) (listed : Array Bool) (a : Act) (w : World), Closed ol.toArray listed →
   (∀ j oj, ol.toArray[j]? = some oj → j ≠ i → listed.getD j true = false → (∀ e ∈ oj.after, Region.binds .any e = true → e.on ≠ i) → oi.apart ol.toArray oj = true) →
   i ∈ Region.ready .any ol.toArray listed → YieldsIf P ol.toArray S1 oi v a → S1 w →
   wpAnyG P .any ol.toArray Q k S1 S fuel (listed.setIfInBounds i true) (a.put oi.dst v) w → wpAnyG P .any ol.toArray Q k S1 S (fuel + 1) listed a w := by
 intro fuel
 have hnotk : ∀ (listed : Array Bool), Closed ol.toArray listed → i ∈ Region.ready .any ol.toArray listed → k ∉ Region.ready .any ol.toArray listed := by
  intro listed hc hr hk
  obtain ⟨_, o', ho', hall⟩ := mem_ready.1 hk
  have h1 := needs_listed hc (i := i) ol.length k (fun o ho e he hb => by
   rw [nth_arr.2 ho] at ho'; cases ho'
   exact hall e he hb) hneed
  have h0 := (mem_ready.1 hr).1
  rcases Nat.lt_or_ge i listed.size with h' | h'
  ·simp [h'] at h0 h1; rw [h0] at h1; cases h1
  ·simp [Array.getElem?_eq_none h'] at h1
 induction fuel with
 | zero =>
  intro listed a w hcl _ hr hy hS H
  refine ⟨fun h => (by rw [h] at hr; cases hr), fun j hj => ⟨fun e => absurd (e ▸ hj) (hnotk _ hcl hr), fun _ => ?_⟩⟩
  by_cases hji : j = i
  ·subst hji; exact hy.wpOp hi hS ⟨hS, H⟩
  ·have := ready_mono hj hji
   rw [H.1] at this
   cases this
 | succ fuel ih =>
  intro listed a w hcl hfree hr hy hS H
  refine ⟨fun h => (by rw [h] at hr; cases hr), fun j hj => ⟨fun e => absurd (e ▸ hj) (hnotk _ hcl hr), fun hjk0 => ?_⟩⟩
  by_cases hji : j = i
  ·subst hji; exact hy.wpOp hi hS ⟨hS, H⟩
  ·have h1 := (H.2 j (ready_mono hj hji)).2 hjk0
   obtain ⟨hjun, oj, hoj, hall⟩ := mem_ready.1 hj
   have hnot : ∀ e ∈ oj.after, Region.binds .any e = true → e.on ≠ i := fun e he hb heq => by
    have h1 := hall e he hb
    have h0 := (mem_ready.1 hr).1
    rw [heq] at h1
    rcases Nat.lt_or_ge i listed.size with h' | h'
    ·simp [h'] at h0 h1; rw [h0] at h1; cases h1
    ·simp [Array.getElem?_eq_none h'] at h1
   have h2 := wpOp_putIf hoj (hfree j oj hoj hji hjun hnot) (fun cs b => hsel i oi cs b hi) (fun cs b => hsel j oj cs b hoj) hQ hy h1
   have hfree' : ∀ q oq, ol.toArray[q]? = some oq → q ≠ i → (listed.setIfInBounds j true).getD q true = false →
     (∀ e ∈ oq.after, Region.binds .any e = true → e.on ≠ i) → oi.apart ol.toArray oq = true := fun q oq hq hqi hun hno => by
    refine hfree q oq hq hqi ?_ hno
    by_cases hjq : j = q
    ·subst hjq; exact hjun
    ·rw [getD_set_ne true hjq] at hun; exact hun
   refine wpOp_mono (fun a' w' h3 => ⟨h3.2.1, ih (listed.setIfInBounds j true) a' w' (hcl.set hj) hfree' (ready_mono hr (Ne.symm hji)) h3.1 h3.2.1 ?_⟩) h2
   rw [Array.setIfInBounds_comm _ _ hji]
   exact h3.2.2
end
section
variable {P : Program} {n : Nat} {ol : List Oper} {o : Oper} {K : Fr → World → Prop} {f : Fr} {w : World} {d : Nat} {v : Value} {S S1 : World → Prop} {fuel k : Nat} {listed : List Bool}
theorem WG.tk (i : Nat) (hi : nthO ol i = some o) (hb : takesT ol listed k i = true) (hw : want ol o f = some true) (hd : o.dst = some d) (hn : Nat.blt d n = true) (hS : S1 w) (hy : ∀ w, S1 w → Run P o f w (.value v) w)
  (kk : WG P n ol k S1 S fuel (setB listed i) K ((d, v) :: f) w) : WG P n ol k S1 S (fuel + 1) listed K f w := fun Q a hp ha hk => by
 simp only [takesT, canTake, Bool.and_eq_true] at hb
 have hi' : ol.toArray[i]? = some o := nth_arr.2 hi
 refine wpAnyG_firstT (v := v) hi' hb.2.1 (by rintro rfl; have h9 := hb.2.2.2; rw [Nat.beq_refl] at h9; cases h9) (Region.noSelect_spec hb.1.1.1) (fun c a w hh => absurd hh (hp _ _ _)) fuel _ _ _ (closed_of hb.2.2.1) (Region.free_spec hi' hb.1.1.2) (by simpa using hb.1.2) (.inl ⟨want_eq ha hw, fun w hSw => hy w hSw a.eval fun x u hx => ha.ev hx⟩) hS ?_
 have := kk Q _ hp (ha.put hn v) hk
 rw [setB_eq] at this
 rw [hd]
 simpa using this
end
theorem WC.mergeK {P : Program} {n : Nat} {c : Code} {K : Fr → World → Prop} {Q : Kont} {f0 : Fr} {w0 w1 : World} {T : List Nat} {L : Hp} (F : Fr) (d : Nat) (v : Value) (hs0 : St w0 T L w1) (hF : Sub F f0) (h1 : ∀ f w, Sub ((d, v) :: F) f → St w0 T L w → K f w)
  (h2 : (∀ f w, Sub ((d, v) :: F) f → St w0 T L w → K f w) → WC P n c (thenK K Q) f0 w1) : WC P n c (thenK K Q) f0 w1 := h2 h1
class TbOk (P : Program) (tb : outParam TT) : Prop where
 ok : tb.Ok P
class Mx (P : Program) : Prop where
 ok : P.follows .mixedOrders = true
section
variable {P : Program} {tb : TT} {w0 w : World} {T : List Nat} {L : Hp} {n : Nat} {ol : List Oper} {act : List (Nat × Bool)} {K : Fr → World → Prop} {KQ : Fr → Prop} {C : World → Prop}
theorem WL.r [t : TbOk P tb] (m : Nat) (hst : St w0 T L w) (h : List Nat) {l l' : List Oper} {f f' : Fr} {S : Prop} (hr : runs tb n ol L [] m l f h True = some (l', f', S)) (k : WL P n ol l' K f' w) (hS : S := by repeat (first | exact trivial | refine ⟨by first | exact rfl | omega | exact u8_in _ | (constructor <;> omega), ?_⟩)) : WL P n ol l K f w := WL.run t.ok m hst h hr hS k
theorem WQ.r [t : TbOk P tb] (m : Nat) (h : List Nat) {l l' : List Oper} {f f' : Fr} {S : Prop} (hr : runs tb n ol L [] m l f h True = some (l', f', S)) (k : WQ P n ol l' (fun w' => St w0 T L w') KQ f') (hS : S := by repeat (first | exact trivial | refine ⟨by first | exact rfl | omega | exact u8_in _ | (constructor <;> omega), ?_⟩)) : WQ P n ol l (fun w' => St w0 T L w') KQ f := WQ.run t.ok m h hr hS k
theorem WC.r1 [t : TbOk P tb] {id : Nat} {l : List Oper} {y : Code} {Q : Kont} {f f' : Fr} {S : Prop} (hst : St w0 T L w) (h : List Nat) (hr : runs tb n l L [] l.length l f h True = some ([], f', S)) (k : WC P n y Q f' w) (hS : S := by repeat (first | exact trivial | refine ⟨by first | exact rfl | omega | exact u8_in _ | (constructor <;> omega), ?_⟩)) : WC P n (.seq (.region id l.toArray false) y) Q f w := WC.rr t.ok hst h hr hS k
theorem WC.q1 [t : TbOk P tb] [m : Mx P] {id : Nat} {l : List Oper} {y : Code} {Q : Kont} {f f' : Fr} {S : Prop} (hst : St w0 T L w) (h : List Nat) (hr : runs tb n l L [] l.length l f h True = some ([], f', S)) (k : ∀ w', St w0 T L w' → WC P n y Q f' w') (hl : Region.lexB .any l.toArray = true := by kernel_rfl) (hS : S := by repeat (first | exact trivial | refine ⟨by first | exact rfl | omega | exact u8_in _ | (constructor <;> omega), ?_⟩)) : WC P n (.seq (.region id l.toArray true) y) Q f w := WC.rq t.ok hst m.ok hl h hr hS k
theorem WC.sq1 [m : Mx P] {id : Nat} {l : List Oper} {y : Code} {Q : Kont} {f : Fr} (hst : St w0 T L w) (h : WQ P n l l (fun w' => St w0 T L w') (fun f' => ∀ w', St w0 T L w' → WC P n y Q f' w') f) (hl : Region.lexB .any l.toArray = true := by kernel_rfl) : WC P n (.seq (.region id l.toArray true) y) Q f w := WC.sq hst m.ok hl h
end
def hruns (tb : TT) (n : Nat) (ol : List Oper) (L : Hp) (act : List (Nat × Bool)) : List Nat → Fr → List Nat → Prop → Option (Fr × Prop)
 | [], f, _, S => some (f, S)
 | i :: is, f, h, S => match nthO ol i with
  | some o => (match o.dst with
   | some d => bif wantA ol act o f && Nat.blt d n && frB act f d then sv tb L o.op f h S fun v h' S' => hruns tb n ol L act is ((d, v) :: f) h' S' else none
   | none => none)
  | none => none
def setBs : List Bool → List Nat → List Bool
 | l, [] => l
 | l, i :: r => setBs (setB l i) r
def fuelB : Nat → List Nat → Option Nat
 | m, [] => some m
 | m + 1, _ :: r => fuelB m r
 | 0, _ :: _ => none
def looks (ol : List Oper) (i : Nat) : Bool := match nthO ol i with
 | some o => (match o.op with
  | .load _ _ => true
  | _ => false)
 | none => true
def takesH (ol : List Oper) : List Bool → List Nat → Bool
 | _, [] => true
 | l, i :: r => canTake ol l i && takesH ol (setB l i) r
def takesG (ol : List Oper) (k : Nat) : List Bool → List Nat → Bool
 | _, [] => true
 | l, i :: r => (takesT ol l k i || (canTake ol l i && (!Nat.beq i k && !looks ol i))) && takesG ol k (setB l i) r
theorem sv_look {β : Type} {tb : TT} {L : Hp} {op : Op} {f : Fr} {h : List Nat} {S : Prop} {k : Value → List Nat → Prop → Option β} (hn : ∀ t x, op ≠ .load t x) : sv tb L op f h S k = sv tb [] op f h S k := by
 cases op <;> first | rfl | exact absurd rfl (hn _ _)
theorem looks_no {ol : List Oper} {i : Nat} {o : Oper} (hi : nthO ol i = some o) (h : looks ol i = false) (t : TypeId) (x : Operand) : o.op ≠ .load t x := fun e => by
 unfold looks at h
 rw [hi] at h
 simp only [e] at h
 cases h
section
variable {P : Program} {tb : TT} {w0 w : World} {T : List Nat} {L : Hp} {n : Nat} {ol : List Oper} {act : List (Nat × Bool)} {K : Fr → World → Prop} {S0 : World → Prop} {k : Nat}
theorem hruns_ok (htb : tb.Ok P) : ∀ {is : List Nat} {listed : List Bool} {F fuel : Nat} {f f' : Fr} {h : List Nat} {S S' : Prop}, Acts ol act f → hruns tb n ol L act is f h S = some (f', S') → fuelB F is = some fuel → S' →
  S ∧ (takesH ol listed is = true → ∀ w, St w0 T L w → WH P n ol (fun w' => St w0 T L w') fuel (setBs listed is) K f' w → WH P n ol (fun w' => St w0 T L w') F listed K f w)
   ∧ (takesG ol k listed is = true → ∀ w, St w0 T L w → WG P n ol k (fun w' => St w0 T L w') S0 fuel (setBs listed is) K f' w → WG P n ol k (fun w' => St w0 T L w') S0 F listed K f w)
 | [], listed, F, fuel, f, f', h, S, S', ha, hr, hf, hS => by
  simp only [hruns, Option.some.injEq, Prod.mk.injEq] at hr
  obtain ⟨rfl, rfl⟩ := hr
  have : F = fuel := by cases F <;> simpa [fuelB] using hf
  subst this
  exact ⟨hS, fun _ _ _ => id, fun _ _ _ => id⟩
 | i :: is, listed, 0, fuel, f, f', h, S, S', ha, hr, hf, hS => by cases hf
 | i :: is, listed, F + 1, fuel, f, f', h, S, S', ha, hr, hf, hS => by
  unfold hruns at hr
  split at hr
  ·rename_i o hi
   split at hr
   ·rename_i d hd
    cases hc : (wantA ol act o f && Nat.blt d n && frB act f d) with
    | false => rw [hc] at hr; cases hr
    | true =>
     rw [hc] at hr
     dsimp only [cond_true] at hr
     simp only [Bool.and_eq_true] at hc
     have hw := wantA_ok ha hc.1.1
     obtain ⟨v, h', S1, hk, hv⟩ := sv_ok htb hr
     obtain ⟨h1, h2, h3⟩ := hruns_ok (listed := setB listed i) htb (frB_ok ha hc.2) hk hf hS
     obtain ⟨h5, h6⟩ := hv h1
     have hy : ∀ w, St w0 T L w → Run P o f w (.value v) w := fun w hst => h6 w (fun p hp => (hst.own p hp).1) o rfl
     refine ⟨h5, fun ht w hst kk => ?_, fun ht w hst kk => ?_⟩
     ·simp only [takesH, Bool.and_eq_true] at ht
      exact WH.take i hi ht.1 hw hd hc.1.2 hst hy (h2 ht.2 w hst kk)
     ·simp only [takesG, Bool.and_eq_true, Bool.or_eq_true, Bool.not_eq_true'] at ht
      rcases ht.1 with ht1 | ⟨ht1, ht2, ht3⟩
      ·exact WG.tk i hi ht1 hw hd hc.1.2 hst hy (h3 ht.2 w hst kk)
      ·rw [sv_look (looks_no hi ht3)] at hr
       obtain ⟨v', h'', S2, hk', hv'⟩ := sv_ok htb hr
       obtain ⟨g1, g2, g3⟩ := hruns_ok (listed := setB listed i) htb (frB_ok ha hc.2) hk' hf hS
       obtain ⟨g5, g6⟩ := hv' g1
       exact WG.takeB i hi ht1 ht2 hw hd hc.1.2 hst (fun w => g6 w (fun p hp => by cases hp) o rfl) (g3 ht.2 w hst kk)
   ·cases hr
  ·cases hr
theorem WH.rn [t : TbOk P tb] (is : List Nat) (hst : St w0 T L w) (h : List Nat) {listed : List Bool} {F fuel : Nat} {f f' : Fr} {S : Prop} (hr : hruns tb n ol L [] is f h True = some (f', S)) (hf : fuelB F is = some fuel) (kk : WH P n ol (fun w' => St w0 T L w') fuel (setBs listed is) K f' w) (hb : takesH ol listed is = true := by kernel_rfl)
  (hS : S := by repeat (first | exact trivial | refine ⟨by first | exact rfl | omega | exact u8_in _ | (constructor <;> omega), ?_⟩)) : WH P n ol (fun w' => St w0 T L w') F listed K f w :=
 (hruns_ok (k := 0) (S0 := fun _ => True) t.ok Acts.nil hr hf hS).2.1 hb w hst kk
theorem WH.rnA [t : TbOk P tb] {f : Fr} (ha : Acts ol act f) (is : List Nat) (hst : St w0 T L w) (h : List Nat) {listed : List Bool} {F fuel : Nat} {f' : Fr} {S : Prop} (hr : hruns tb n ol L act is f h True = some (f', S)) (hf : fuelB F is = some fuel) (kk : WH P n ol (fun w' => St w0 T L w') fuel (setBs listed is) K f' w) (hb : takesH ol listed is = true := by kernel_rfl)
  (hS : S := by repeat (first | exact trivial | refine ⟨by first | exact rfl | omega | exact u8_in _ | (constructor <;> omega), ?_⟩)) : WH P n ol (fun w' => St w0 T L w') F listed K f w :=
 (hruns_ok (k := 0) (S0 := fun _ => True) t.ok ha hr hf hS).2.1 hb w hst kk
theorem WG.rn [t : TbOk P tb] (is : List Nat) (hst : St w0 T L w) (h : List Nat) {listed : List Bool} {F fuel : Nat} {f f' : Fr} {S : Prop} (hr : hruns tb n ol L [] is f h True = some (f', S)) (hf : fuelB F is = some fuel) (kk : WG P n ol k (fun w' => St w0 T L w') S0 fuel (setBs listed is) K f' w) (hb : takesG ol k listed is = true := by kernel_rfl)
  (hS : S := by repeat (first | exact trivial | refine ⟨by first | exact rfl | omega | exact u8_in _ | (constructor <;> omega), ?_⟩)) : WG P n ol k (fun w' => St w0 T L w') S0 F listed K f w :=
 (hruns_ok (k := k) (S0 := S0) t.ok Acts.nil hr hf hS).2.2 hb w hst kk
theorem WG.rnA [t : TbOk P tb] {f : Fr} (ha : Acts ol act f) (is : List Nat) (hst : St w0 T L w) (h : List Nat) {listed : List Bool} {F fuel : Nat} {f' : Fr} {S : Prop} (hr : hruns tb n ol L act is f h True = some (f', S)) (hf : fuelB F is = some fuel) (kk : WG P n ol k (fun w' => St w0 T L w') S0 fuel (setBs listed is) K f' w) (hb : takesG ol k listed is = true := by kernel_rfl)
  (hS : S := by repeat (first | exact trivial | refine ⟨by first | exact rfl | omega | exact u8_in _ | (constructor <;> omega), ?_⟩)) : WG P n ol k (fun w' => St w0 T L w') S0 F listed K f w :=
 (hruns_ok (k := k) (S0 := S0) t.ok ha hr hf hS).2.2 hb w hst kk
end
section
variable {P : Program} {n : Nat} {ol : List Oper} {o : Oper} {K : Fr → World → Prop} {f : Fr} {w : World} {S S1 : World → Prop} {fuel k : Nat} {listed : List Bool}
theorem WH.o1 (i : Nat) (hi : nthO ol i = some o) (h : WL P n ol [o] (fun f' w' => S w' ∧ WH P n ol S fuel (setB listed i) K f' w') f w) (hr : Region.ready .any ol.toArray listed.toArray = [i] := by kernel_rfl) : WH P n ol S (fuel + 1) listed K f w := WH.all [i] hr rfl (WHs.cons hi h WHs.nil)
theorem WG.o1 (i : Nat) (hi : nthO ol i = some o) (hn : Nat.beq i k = false) (h : WL P n ol [o] (fun f' w' => S1 w' ∧ WG P n ol k S1 S fuel (setB listed i) K f' w') f w) (hr : Region.ready .any ol.toArray listed.toArray = [i] := by kernel_rfl) : WG P n ol k S1 S (fuel + 1) listed K f w := WG.all [i] hr rfl (WGs.cons hi hn h WGs.nil)
theorem WG.oK (hi : nthO ol k = some o) (h : WL P n ol [o] (fun f' w' => S w' ∧ WH P n ol S fuel (setB listed k) K f' w') f w) (hr : Region.ready .any ol.toArray listed.toArray = [k] := by kernel_rfl) : WG P n ol k S1 S (fuel + 1) listed K f w := WG.all [k] hr rfl (WGs.consK hi h WGs.nil)
theorem WH.dn (h : K f w) (hr : Region.ready .any ol.toArray listed.toArray = [] := by kernel_rfl) : WH P n ol S fuel listed K f w := WH.done hr h
theorem WL.n2 (h1 : S w) (h2 : WH P n ol S1 fuel listed K f w) : WL P n ol [] (fun f' w' => S w' ∧ WH P n ol S1 fuel listed K f' w') f w := WL.nil ⟨h1, h2⟩
end
section
variable {P : Program} {n : Nat} {w0 w : World} {T : List Nat} {L L0 L1 : Hp} {f : Fr}
theorem WC.rH [m : Mx P] {id : Nat} {l : List Oper} {Q : Kont} (h0 : St w0 T L0 w) (h1 : St w0 T L w) (h : ∀ w', St w0 T L w' → WH P n l (fun w' => St w0 T L0 w') l.length (List.replicate l.length false) (fun f w => Q .normal f w) f w') : WC P n (.region id l.toArray true) Q f w := WC.regionH2 _ _ m.ok h0.drew h1.drew h
theorem WC.rG [m : Mx P] {id : Nat} {l : List Oper} {Q : Kont} (k : Nat) (h0 : St w0 T L0 w) (h1 : St w0 T L1 w) (h2 : St w0 T L w) (h : ∀ w', St w0 T L w' → WG P n l k (fun w' => St w0 T L1 w') (fun w' => St w0 T L0 w') l.length (List.replicate l.length false) (fun f w => Q .normal f w) f w') : WC P n (.region id l.toArray true) Q f w := WC.regionG k _ _ _ m.ok h0.drew h1.drew h2.drew h
end
class Fr1 (X L : Hp) (R : outParam Hp) : Prop where
 pf : (X ++ R).Perm L
theorem fr1_mid {X A R L : Hp} (h : (X ++ R).Perm L) : (X ++ (A ++ R)).Perm (A ++ L) := perm_front h
instance (priority := low) fr1End {X : Hp} : Fr1 X X [] := ⟨by rw [List.append_nil]⟩
instance fr1App {X L R A : Hp} [h : Fr1 X L R] : Fr1 X (A ++ L) (A ++ R) := ⟨fr1_mid h.pf⟩
instance fr1Cons {X L R : Hp} {p : Nat × Obj} [h : Fr1 X L R] : Fr1 X (p :: L) (p :: R) := ⟨fr1_mid (A := [p]) h.pf⟩
instance (priority := high) fr1Nil {L : Hp} : Fr1 [] L L := ⟨List.Perm.refl _⟩
instance (priority := high) fr1Here {X R : Hp} : Fr1 X (X ++ R) R := ⟨List.Perm.refl _⟩
instance fr1App' {X L R A : Hp} [h : Fr1 X L R] : Fr1 X (A.append L) (A ++ R) := ⟨fr1_mid h.pf⟩
instance (priority := high) fr1Here' {X R : Hp} : Fr1 X (X.append R) R := ⟨List.Perm.refl _⟩
class FrB (b : Nat) (L : Hp) (o : outParam Obj) (R : outParam Hp) : Prop where
 pf : ((b, o) :: R).Perm L
instance frbApp {b : Nat} {o : Obj} {L R A : Hp} [h : FrB b L o R] : FrB b (A ++ L) o (A ++ R) := ⟨fr1_mid (X := [(b, o)]) h.pf⟩
instance frbCons {b : Nat} {o : Obj} {L R : Hp} {p : Nat × Obj} [h : FrB b L o R] : FrB b (p :: L) o (p :: R) := ⟨fr1_mid (X := [(b, o)]) (A := [p]) h.pf⟩
instance frbApp' {b : Nat} {o : Obj} {L R A : Hp} [h : FrB b L o R] : FrB b (A.append L) o (A ++ R) := ⟨fr1_mid (X := [(b, o)]) h.pf⟩
instance frbIn {b : Nat} {o : Obj} {L R A : Hp} {p : Nat × Obj} [h : FrB b (A ++ L) o R] : FrB b ((p :: A) ++ L) o (p :: R) := ⟨fr1_mid (X := [(b, o)]) (A := [p]) h.pf⟩
instance frbIn' {b : Nat} {o : Obj} {L R A : Hp} {p : Nat × Obj} [h : FrB b (A.append L) o R] : FrB b (List.append (p :: A) L) o (p :: R) := ⟨fr1_mid (X := [(b, o)]) (A := [p]) h.pf⟩
instance (priority := high) frbHd {b : Nat} {o : Obj} {R A : Hp} : FrB b (((b, o) :: A) ++ R) o (A ++ R) := ⟨List.Perm.refl _⟩
instance (priority := high) frbHd' {b : Nat} {o : Obj} {R A : Hp} : FrB b (List.append ((b, o) :: A) R) o (A ++ R) := ⟨List.Perm.refl _⟩
instance (priority := high) frbOne' {b : Nat} {o : Obj} {R : Hp} : FrB b (List.append [(b, o)] R) o R := ⟨List.Perm.refl _⟩
instance (priority := high) frbOne {b : Nat} {o : Obj} {R : Hp} : FrB b ([(b, o)] ++ R) o R := ⟨List.Perm.refl _⟩
instance (priority := high) frbHere {b : Nat} {o : Obj} {R : Hp} : FrB b ((b, o) :: R) o R := ⟨List.Perm.refl _⟩
section
variable {w0 w : World} {T : List Nat} {L R A B C D R1 R2 R3 R4 : Hp} {o : Obj} {p q : Nat × Obj}
theorem St.fr (h : St w0 T L w) (X : Hp) [k : Fr1 X L R] : St w0 T (X ++ R) w := h.perm k.pf
theorem St.rm (h : St w0 T L w) (X : Hp) [k : Fr1 X L R] : St w0 T R w := (h.perm k.pf).drop (sR _)
theorem St.fb (h : St w0 T L w) (b : Nat) [k : FrB b L o R] : St w0 T ((b, o) :: R) w := h.perm k.pf
theorem St.ow (h : St w0 T L w) (X : Hp) [k : Fr1 X L R] : ∀ p, p ∈ X → w.heap[p.1]? = some p.2 := fun p hp => (h.own p (k.pf.mem_iff.1 (List.mem_append_left _ hp))).1
theorem St.d1 (h : St w0 T (p :: L) w) : St w0 T L w := h.drop (List.sublist_cons_self _ _)
end
class BoolP (b : Bool) (p q : outParam Prop) : Prop where
 t : b = true → p
 f : b = false → q
instance (priority := low) boolP0 {b : Bool} : BoolP b (b = true) (b = false) := ⟨id, id⟩
instance boolPD {p : Prop} [d : Decidable p] : BoolP (decide p) p (¬ p) := ⟨of_decide_eq_true, of_decide_eq_false⟩
instance boolPN {b : Bool} {p q : Prop} [h : BoolP b p q] : BoolP (!b) q p := ⟨fun e => h.f (by simpa using e), fun e => h.t (by simpa using e)⟩
instance boolPA {a b : Bool} {p q p' q' : Prop} [h : BoolP a p q] [k : BoolP b p' q'] : BoolP (a && b) (p ∧ p') ((a && b) = false) := ⟨fun e => by rw [Bool.and_eq_true] at e; exact ⟨h.t e.1, k.t e.2⟩, id⟩
instance boolPO {a b : Bool} {p q p' q' : Prop} [h : BoolP a p q] [k : BoolP b p' q'] : BoolP (a || b) ((a || b) = true) (q ∧ q') := ⟨id, fun e => by rw [Bool.or_eq_false_iff] at e; exact ⟨h.f e.1, k.f e.2⟩⟩
section
variable {P : Program} {n : Nat} {w : World} {f : Fr}
theorem WC.cq {c : Operand} {x y : Code} {t : Bool} {p q : Prop} {Q : Kont} (hc : ev f c = some (.bool t)) [i : BoolP t p q] (hx : t = true → p → WC P n x Q f w) (hy : t = false → q → WC P n y Q f w) : WC P n (.cond c x y) Q f w :=
 WC.cond hc (fun h => hx h (i.t h)) (fun h => hy h (i.f h))
end
def rstr : List Nat → Fr → Option Fr
 | [], _ => some []
 | i :: r, f => match lk f i with
  | some v => (match rstr r f with
   | some g => some ((i, v) :: g)
   | none => none)
  | none => none
theorem rstr_ok : ∀ {is : List Nat} {f F : Fr}, rstr is f = some F → Sub F f
 | [], f, F, h => by simp only [rstr, Option.some.injEq] at h; subst h; trivial
 | i :: r, f, F, h => by
  unfold rstr at h
  split at h
  ·rename_i v hv
   split at h
   ·rename_i g hg
    simp only [Option.some.injEq] at h
    subst h
    exact ⟨hv, rstr_ok hg⟩
   ·cases h
  ·cases h
def keysF : Fr → List Nat
 | [] => []
 | (i, _) :: r => i :: keysF r
theorem sbF {F f : Fr} (h : rstr (keysF F) f = some F) : Sub F f := rstr_ok h
section
variable {P : Program} {n : Nat} {c : Code} {Q : Kont} {f : Fr} {w0 w : World} {T : List Nat} {R L L0 : Hp}
theorem WC.lV {F : Fr} {L0 : Hp} (is : List Nat) (hF : rstr is f = some F) (hst : St w0 T (L0 ++ R) w) (I : Nat → Hp → Fr → Prop) (k0 : Nat) (h0 : I k0 L0 f)
  (hr : ∀ k a f w, I k a f → Sub F f → St w0 T (a ++ R) w → WC P n c (thenK (fun f' w' => Sub F f' ∧ ∃ a', St w0 T (a' ++ R) w' ∧ ∃ k', k' < k ∧ I k' a' f') Q) f w) : WC P n (.loop c) Q f w :=
 WC.loopV (α := Hp) F (rstr_ok hF) (fun a => a) L0 hst I k0 h0 hr
theorem WC.lS {F : Fr} (is : List Nat) (hF : rstr is f = some F) (hst : St w0 T L w) (I : Nat → Fr → World → Prop) (k0 : Nat) (h0 : I k0 f w)
  (hr : ∀ k f w, I k f w → Sub F f → St w0 T L w → WC P n c (thenK (fun f' w' => Sub F f' ∧ St w0 T L w' ∧ ∃ k', k' < k ∧ I k' f' w') Q) f w) : WC P n (.loop c) Q f w :=
 WC.loopS F (rstr_ok hF) hst I k0 h0 hr
theorem WC.lO {F : Fr} (is : List Nat) (hF : rstr is f = some F) (hst : St w0 T (L0 ++ R) w) (I : Nat → Fr → Hp → Prop) (k0 : Nat) (h0 : I k0 f L0)
  (hr : ∀ k f w L, I k f L → Sub F f → St w0 T (L ++ R) w → WC P n c (thenK (fun f' w' => Sub F f' ∧ ∃ L', St w0 T (L' ++ R) w' ∧ ∃ k', k' < k ∧ I k' f' L') Q) f w) : WC P n (.loop c) Q f w :=
 WC.loopO F (rstr_ok hF) hst I k0 h0 hr
end
def clC (n : Nat) (o : Oper) (f : Fr) : Option (FuncId × List Value × Nat) :=
 match o.guard, o.dst, o.op with
 | none, some d, .call c => (match c.callee with
  | .value fo => (match ev f fo, evs f c.args.toList with
   | some (.func (.func g) ⟨[]⟩ ⟨[]⟩), some vl => bif Nat.blt d n then some (g, vl, d) else none
   | _, _ => none)
  | _ => none)
 | _, _, _ => none
section
variable {P : Program} {n : Nat} {ol rest : List Oper} {o : Oper} {K : Fr → World → Prop} {f : Fr} {w : World}
theorem WL.cl {g d : Nat} {vl : List Value} {R : Ending → World → Prop} (hf : ∀ args w, (callFunc g args).run P w = .ok (.enter g args) w) (h : clC n o f = some (g, vl, d)) (hc : Calls P g vl.toArray w R) (k : ∀ e w', R e w' → ∃ v, e = .returned v ∧ WL P n ol rest K ((d, v) :: f) w') : WL P n ol (o :: rest) K f w := by
 unfold clC at h
 split at h
 ·rename_i d' c hg hd ho
  split at h
  ·rename_i fo hcal
   split at h
   ·rename_i g' vl' hfo hvs
    cases hn : Nat.blt d' n with
    | false => rw [hn] at h; cases h
    | true =>
     rw [hn] at h
     simp only [cond_true, Option.some.injEq, Prod.mk.injEq] at h
     obtain ⟨rfl, rfl, rfl⟩ := h
     refine WL.call (want_none hg) hd hn (Run.call (ts := c.argTypes) (args := c.args) hf ?_ hfo hvs) hc k
     rw [ho]
     obtain ⟨c1, c2, c3⟩ := c
     simp only at hcal
     subst hcal
     rfl
   ·cases h
  ·cases h
 ·cases h
end
structure FileD where
 Id : Int
 Body : List UInt8
 Safe : Int
theorem FileD.ext' {x y : FileD} (h0 : x.Id = y.Id) (h1 : x.Body = y.Body) (h2 : x.Safe = y.Safe) : x = y := by cases x; cases y; simp_all
theorem FileD.iff' {x y : FileD} : x = y ↔ x.Id = y.Id ∧ x.Body = y.Body ∧ x.Safe = y.Safe := ⟨fun h => by subst h; simp, fun h => by cases x; cases y; simp_all⟩
instance : DecidableEq FileD := fun x y => decidable_of_iff (x.Id = y.Id ∧ x.Body = y.Body ∧ x.Safe = y.Safe) FileD.iff'.symm
structure LinkD where
 Name : ByteArray
 Id : Int
theorem LinkD.ext' {x y : LinkD} (h0 : x.Name = y.Name) (h1 : x.Id = y.Id) : x = y := by cases x; cases y; simp_all
theorem LinkD.iff' {x y : LinkD} : x = y ↔ x.Name = y.Name ∧ x.Id = y.Id := ⟨fun h => by subst h; simp, fun h => by cases x; cases y; simp_all⟩
instance : DecidableEq LinkD := fun x y => decidable_of_iff (x.Name = y.Name ∧ x.Id = y.Id) LinkD.iff'.symm
structure TurnD where
 Kind : Int
 Name : ByteArray
 To : ByteArray
 Id : Int
theorem TurnD.ext' {x y : TurnD} (h0 : x.Kind = y.Kind) (h1 : x.Name = y.Name) (h2 : x.To = y.To) (h3 : x.Id = y.Id) : x = y := by cases x; cases y; simp_all
theorem TurnD.iff' {x y : TurnD} : x = y ↔ x.Kind = y.Kind ∧ x.Name = y.Name ∧ x.To = y.To ∧ x.Id = y.Id := ⟨fun h => by subst h; simp, fun h => by cases x; cases y; simp_all⟩
instance : DecidableEq TurnD := fun x y => decidable_of_iff (x.Kind = y.Kind ∧ x.Name = y.Name ∧ x.To = y.To ∧ x.Id = y.Id) TurnD.iff'.symm
structure DiskD where
 Room : Int
 Fuse : Int
 Next : Int
 Files : List FileD
 Kept : List LinkD
 Turns : List TurnD
theorem DiskD.ext' {x y : DiskD} (h0 : x.Room = y.Room) (h1 : x.Fuse = y.Fuse) (h2 : x.Next = y.Next) (h3 : x.Files = y.Files) (h4 : x.Kept = y.Kept) (h5 : x.Turns = y.Turns) : x = y := by cases x; cases y; simp_all
theorem DiskD.iff' {x y : DiskD} : x = y ↔ x.Room = y.Room ∧ x.Fuse = y.Fuse ∧ x.Next = y.Next ∧ x.Files = y.Files ∧ x.Kept = y.Kept ∧ x.Turns = y.Turns := ⟨fun h => by subst h; simp, fun h => by cases x; cases y; simp_all⟩
instance : DecidableEq DiskD := fun x y => decidable_of_iff (x.Room = y.Room ∧ x.Fuse = y.Fuse ∧ x.Next = y.Next ∧ x.Files = y.Files ∧ x.Kept = y.Kept ∧ x.Turns = y.Turns) DiskD.iff'.symm
structure DiskOpD where
 Kind : Int
 Name : ByteArray
 To : ByteArray
 Data : List UInt8
theorem DiskOpD.ext' {x y : DiskOpD} (h0 : x.Kind = y.Kind) (h1 : x.Name = y.Name) (h2 : x.To = y.To) (h3 : x.Data = y.Data) : x = y := by cases x; cases y; simp_all
theorem DiskOpD.iff' {x y : DiskOpD} : x = y ↔ x.Kind = y.Kind ∧ x.Name = y.Name ∧ x.To = y.To ∧ x.Data = y.Data := ⟨fun h => by subst h; simp, fun h => by cases x; cases y; simp_all⟩
instance : DecidableEq DiskOpD := fun x y => decidable_of_iff (x.Kind = y.Kind ∧ x.Name = y.Name ∧ x.To = y.To ∧ x.Data = y.Data) DiskOpD.iff'.symm
structure LoadD where
 Data : List UInt8
theorem LoadD.ext' {x y : LoadD} (h0 : x.Data = y.Data) : x = y := by cases x; cases y; simp_all
theorem LoadD.iff' {x y : LoadD} : x = y ↔ x.Data = y.Data := ⟨fun h => by subst h; simp, fun h => by cases x; cases y; simp_all⟩
instance : DecidableEq LoadD := fun x y => decidable_of_iff (x.Data = y.Data) LoadD.iff'.symm
structure DepotD where
 Disk : DiskD
 Gen : Int
 Seq : Int
 Size : Int
 Stuck : Bool
theorem DepotD.ext' {x y : DepotD} (h0 : x.Disk = y.Disk) (h1 : x.Gen = y.Gen) (h2 : x.Seq = y.Seq) (h3 : x.Size = y.Size) (h4 : x.Stuck = y.Stuck) : x = y := by cases x; cases y; simp_all
theorem DepotD.iff' {x y : DepotD} : x = y ↔ x.Disk = y.Disk ∧ x.Gen = y.Gen ∧ x.Seq = y.Seq ∧ x.Size = y.Size ∧ x.Stuck = y.Stuck := ⟨fun h => by subst h; simp, fun h => by cases x; cases y; simp_all⟩
instance : DecidableEq DepotD := fun x y => decidable_of_iff (x.Disk = y.Disk ∧ x.Gen = y.Gen ∧ x.Seq = y.Seq ∧ x.Size = y.Size ∧ x.Stuck = y.Stuck) DepotD.iff'.symm
structure AttrD where
 Fg : Int
 Bg : Int
 Bold : Bool
 Under : Bool
 Turn : Bool
theorem AttrD.ext' {x y : AttrD} (h0 : x.Fg = y.Fg) (h1 : x.Bg = y.Bg) (h2 : x.Bold = y.Bold) (h3 : x.Under = y.Under) (h4 : x.Turn = y.Turn) : x = y := by cases x; cases y; simp_all
theorem AttrD.iff' {x y : AttrD} : x = y ↔ x.Fg = y.Fg ∧ x.Bg = y.Bg ∧ x.Bold = y.Bold ∧ x.Under = y.Under ∧ x.Turn = y.Turn := ⟨fun h => by subst h; simp, fun h => by cases x; cases y; simp_all⟩
instance : DecidableEq AttrD := fun x y => decidable_of_iff (x.Fg = y.Fg ∧ x.Bg = y.Bg ∧ x.Bold = y.Bold ∧ x.Under = y.Under ∧ x.Turn = y.Turn) AttrD.iff'.symm
def encAttr : Enc AttrD := ⟨5, fun d => [i64 d.Fg, i64 d.Bg, .bool d.Bold, .bool d.Under, .bool d.Turn], ⟨0, 0, false, false, false⟩, fun _ => rfl, fun x v h => by simp at h; rcases h with rfl | rfl | rfl | rfl | rfl <;> rfl, by decide⟩
structure CellD where
 R : Int
 A : AttrD
theorem CellD.ext' {x y : CellD} (h0 : x.R = y.R) (h1 : x.A = y.A) : x = y := by cases x; cases y; simp_all
theorem CellD.iff' {x y : CellD} : x = y ↔ x.R = y.R ∧ x.A = y.A := ⟨fun h => by subst h; simp, fun h => by cases x; cases y; simp_all⟩
instance : DecidableEq CellD := fun x y => decidable_of_iff (x.R = y.R ∧ x.A = y.A) CellD.iff'.symm
def encCell : Enc CellD := ⟨6, fun d => [i64 d.R, i64 d.A.Fg, i64 d.A.Bg, .bool d.A.Bold, .bool d.A.Under, .bool d.A.Turn], ⟨0, ⟨0, 0, false, false, false⟩⟩, fun _ => rfl, fun x v h => by simp at h; rcases h with rfl | rfl | rfl | rfl | rfl | rfl <;> rfl, by decide⟩
structure GridD where
 W : Int
 H : Int
 Cells : List CellD
theorem GridD.ext' {x y : GridD} (h0 : x.W = y.W) (h1 : x.H = y.H) (h2 : x.Cells = y.Cells) : x = y := by cases x; cases y; simp_all
theorem GridD.iff' {x y : GridD} : x = y ↔ x.W = y.W ∧ x.H = y.H ∧ x.Cells = y.Cells := ⟨fun h => by subst h; simp, fun h => by cases x; cases y; simp_all⟩
instance : DecidableEq GridD := fun x y => decidable_of_iff (x.W = y.W ∧ x.H = y.H ∧ x.Cells = y.Cells) GridD.iff'.symm
structure VpD where
 State : Int
 Mark : Bool
 Args : List Int
 Part : List UInt8
theorem VpD.ext' {x y : VpD} (h0 : x.State = y.State) (h1 : x.Mark = y.Mark) (h2 : x.Args = y.Args) (h3 : x.Part = y.Part) : x = y := by cases x; cases y; simp_all
theorem VpD.iff' {x y : VpD} : x = y ↔ x.State = y.State ∧ x.Mark = y.Mark ∧ x.Args = y.Args ∧ x.Part = y.Part := ⟨fun h => by subst h; simp, fun h => by cases x; cases y; simp_all⟩
instance : DecidableEq VpD := fun x y => decidable_of_iff (x.State = y.State ∧ x.Mark = y.Mark ∧ x.Args = y.Args ∧ x.Part = y.Part) VpD.iff'.symm
structure ActD where
 Kind : Int
 R : Int
 Mark : Bool
 Args : List Int
theorem ActD.ext' {x y : ActD} (h0 : x.Kind = y.Kind) (h1 : x.R = y.R) (h2 : x.Mark = y.Mark) (h3 : x.Args = y.Args) : x = y := by cases x; cases y; simp_all
theorem ActD.iff' {x y : ActD} : x = y ↔ x.Kind = y.Kind ∧ x.R = y.R ∧ x.Mark = y.Mark ∧ x.Args = y.Args := ⟨fun h => by subst h; simp, fun h => by cases x; cases y; simp_all⟩
instance : DecidableEq ActD := fun x y => decidable_of_iff (x.Kind = y.Kind ∧ x.R = y.R ∧ x.Mark = y.Mark ∧ x.Args = y.Args) ActD.iff'.symm
structure RowD where
 Cells : List CellD
theorem RowD.ext' {x y : RowD} (h0 : x.Cells = y.Cells) : x = y := by cases x; cases y; simp_all
theorem RowD.iff' {x y : RowD} : x = y ↔ x.Cells = y.Cells := ⟨fun h => by subst h; simp, fun h => by cases x; cases y; simp_all⟩
instance : DecidableEq RowD := fun x y => decidable_of_iff (x.Cells = y.Cells) RowD.iff'.symm
structure ScrD where
 W : Int
 H : Int
 Main : GridD
 Alt : GridD
 OnAlt : Bool
 X : Int
 Y : Int
 Wrap : Bool
 A : AttrD
 Top : Int
 Bot : Int
 NoWrap : Bool
 Hide : Bool
 SaveX : Int
 SaveY : Int
 SaveA : AttrD
 Tabs : List Int
 Limit : Int
 Back : List RowD
theorem ScrD.ext' {x y : ScrD} (h0 : x.W = y.W) (h1 : x.H = y.H) (h2 : x.Main = y.Main) (h3 : x.Alt = y.Alt) (h4 : x.OnAlt = y.OnAlt) (h5 : x.X = y.X) (h6 : x.Y = y.Y) (h7 : x.Wrap = y.Wrap) (h8 : x.A = y.A) (h9 : x.Top = y.Top) (h10 : x.Bot = y.Bot) (h11 : x.NoWrap = y.NoWrap) (h12 : x.Hide = y.Hide) (h13 : x.SaveX = y.SaveX) (h14 : x.SaveY = y.SaveY) (h15 : x.SaveA = y.SaveA) (h16 : x.Tabs = y.Tabs) (h17 : x.Limit = y.Limit) (h18 : x.Back = y.Back) : x = y := by cases x; cases y; simp_all
theorem ScrD.iff' {x y : ScrD} : x = y ↔ x.W = y.W ∧ x.H = y.H ∧ x.Main = y.Main ∧ x.Alt = y.Alt ∧ x.OnAlt = y.OnAlt ∧ x.X = y.X ∧ x.Y = y.Y ∧ x.Wrap = y.Wrap ∧ x.A = y.A ∧ x.Top = y.Top ∧ x.Bot = y.Bot ∧ x.NoWrap = y.NoWrap ∧ x.Hide = y.Hide ∧ x.SaveX = y.SaveX ∧ x.SaveY = y.SaveY ∧ x.SaveA = y.SaveA ∧ x.Tabs = y.Tabs ∧ x.Limit = y.Limit ∧ x.Back = y.Back := ⟨fun h => by subst h; simp, fun h => by cases x; cases y; simp_all⟩
instance : DecidableEq ScrD := fun x y => decidable_of_iff (x.W = y.W ∧ x.H = y.H ∧ x.Main = y.Main ∧ x.Alt = y.Alt ∧ x.OnAlt = y.OnAlt ∧ x.X = y.X ∧ x.Y = y.Y ∧ x.Wrap = y.Wrap ∧ x.A = y.A ∧ x.Top = y.Top ∧ x.Bot = y.Bot ∧ x.NoWrap = y.NoWrap ∧ x.Hide = y.Hide ∧ x.SaveX = y.SaveX ∧ x.SaveY = y.SaveY ∧ x.SaveA = y.SaveA ∧ x.Tabs = y.Tabs ∧ x.Limit = y.Limit ∧ x.Back = y.Back) ScrD.iff'.symm
structure TermD where
 P : VpD
 S : ScrD
theorem TermD.ext' {x y : TermD} (h0 : x.P = y.P) (h1 : x.S = y.S) : x = y := by cases x; cases y; simp_all
theorem TermD.iff' {x y : TermD} : x = y ↔ x.P = y.P ∧ x.S = y.S := ⟨fun h => by subst h; simp, fun h => by cases x; cases y; simp_all⟩
instance : DecidableEq TermD := fun x y => decidable_of_iff (x.P = y.P ∧ x.S = y.S) TermD.iff'.symm
structure NodeD where
 Pane : Int
 Down : Bool
 First : Int
theorem NodeD.ext' {x y : NodeD} (h0 : x.Pane = y.Pane) (h1 : x.Down = y.Down) (h2 : x.First = y.First) : x = y := by cases x; cases y; simp_all
theorem NodeD.iff' {x y : NodeD} : x = y ↔ x.Pane = y.Pane ∧ x.Down = y.Down ∧ x.First = y.First := ⟨fun h => by subst h; simp, fun h => by cases x; cases y; simp_all⟩
instance : DecidableEq NodeD := fun x y => decidable_of_iff (x.Pane = y.Pane ∧ x.Down = y.Down ∧ x.First = y.First) NodeD.iff'.symm
structure PaneD where
 Id : Int
 Cmd : ByteArray
 Dir : ByteArray
 Life : Int
 Code : Int
 Pid : Int
 Term : TermD
theorem PaneD.ext' {x y : PaneD} (h0 : x.Id = y.Id) (h1 : x.Cmd = y.Cmd) (h2 : x.Dir = y.Dir) (h3 : x.Life = y.Life) (h4 : x.Code = y.Code) (h5 : x.Pid = y.Pid) (h6 : x.Term = y.Term) : x = y := by cases x; cases y; simp_all
theorem PaneD.iff' {x y : PaneD} : x = y ↔ x.Id = y.Id ∧ x.Cmd = y.Cmd ∧ x.Dir = y.Dir ∧ x.Life = y.Life ∧ x.Code = y.Code ∧ x.Pid = y.Pid ∧ x.Term = y.Term := ⟨fun h => by subst h; simp, fun h => by cases x; cases y; simp_all⟩
instance : DecidableEq PaneD := fun x y => decidable_of_iff (x.Id = y.Id ∧ x.Cmd = y.Cmd ∧ x.Dir = y.Dir ∧ x.Life = y.Life ∧ x.Code = y.Code ∧ x.Pid = y.Pid ∧ x.Term = y.Term) PaneD.iff'.symm
structure WinD where
 Id : Int
 Name : ByteArray
 Tree : List NodeD
 Active : Int
 Zoom : Bool
theorem WinD.ext' {x y : WinD} (h0 : x.Id = y.Id) (h1 : x.Name = y.Name) (h2 : x.Tree = y.Tree) (h3 : x.Active = y.Active) (h4 : x.Zoom = y.Zoom) : x = y := by cases x; cases y; simp_all
theorem WinD.iff' {x y : WinD} : x = y ↔ x.Id = y.Id ∧ x.Name = y.Name ∧ x.Tree = y.Tree ∧ x.Active = y.Active ∧ x.Zoom = y.Zoom := ⟨fun h => by subst h; simp, fun h => by cases x; cases y; simp_all⟩
instance : DecidableEq WinD := fun x y => decidable_of_iff (x.Id = y.Id ∧ x.Name = y.Name ∧ x.Tree = y.Tree ∧ x.Active = y.Active ∧ x.Zoom = y.Zoom) WinD.iff'.symm
structure SessD where
 Name : ByteArray
 Wins : List Int
 Active : Int
theorem SessD.ext' {x y : SessD} (h0 : x.Name = y.Name) (h1 : x.Wins = y.Wins) (h2 : x.Active = y.Active) : x = y := by cases x; cases y; simp_all
theorem SessD.iff' {x y : SessD} : x = y ↔ x.Name = y.Name ∧ x.Wins = y.Wins ∧ x.Active = y.Active := ⟨fun h => by subst h; simp, fun h => by cases x; cases y; simp_all⟩
instance : DecidableEq SessD := fun x y => decidable_of_iff (x.Name = y.Name ∧ x.Wins = y.Wins ∧ x.Active = y.Active) SessD.iff'.symm
structure StateD where
 W : Int
 H : Int
 Limit : Int
 Next : Int
 Panes : List PaneD
 Wins : List WinD
 Sess : List SessD
theorem StateD.ext' {x y : StateD} (h0 : x.W = y.W) (h1 : x.H = y.H) (h2 : x.Limit = y.Limit) (h3 : x.Next = y.Next) (h4 : x.Panes = y.Panes) (h5 : x.Wins = y.Wins) (h6 : x.Sess = y.Sess) : x = y := by cases x; cases y; simp_all
theorem StateD.iff' {x y : StateD} : x = y ↔ x.W = y.W ∧ x.H = y.H ∧ x.Limit = y.Limit ∧ x.Next = y.Next ∧ x.Panes = y.Panes ∧ x.Wins = y.Wins ∧ x.Sess = y.Sess := ⟨fun h => by subst h; simp, fun h => by cases x; cases y; simp_all⟩
instance : DecidableEq StateD := fun x y => decidable_of_iff (x.W = y.W ∧ x.H = y.H ∧ x.Limit = y.Limit ∧ x.Next = y.Next ∧ x.Panes = y.Panes ∧ x.Wins = y.Wins ∧ x.Sess = y.Sess) StateD.iff'.symm
structure OpD where
 Kind : Int
 A : Int
 B : Int
 C : Int
 Name : ByteArray
 Text : ByteArray
 Dir : ByteArray
 Data : List UInt8
theorem OpD.ext' {x y : OpD} (h0 : x.Kind = y.Kind) (h1 : x.A = y.A) (h2 : x.B = y.B) (h3 : x.C = y.C) (h4 : x.Name = y.Name) (h5 : x.Text = y.Text) (h6 : x.Dir = y.Dir) (h7 : x.Data = y.Data) : x = y := by cases x; cases y; simp_all
theorem OpD.iff' {x y : OpD} : x = y ↔ x.Kind = y.Kind ∧ x.A = y.A ∧ x.B = y.B ∧ x.C = y.C ∧ x.Name = y.Name ∧ x.Text = y.Text ∧ x.Dir = y.Dir ∧ x.Data = y.Data := ⟨fun h => by subst h; simp, fun h => by cases x; cases y; simp_all⟩
instance : DecidableEq OpD := fun x y => decidable_of_iff (x.Kind = y.Kind ∧ x.A = y.A ∧ x.B = y.B ∧ x.C = y.C ∧ x.Name = y.Name ∧ x.Text = y.Text ∧ x.Dir = y.Dir ∧ x.Data = y.Data) OpD.iff'.symm
structure ViewD where
 Grid : GridD
 X : Int
 Y : Int
 Hide : Bool
theorem ViewD.ext' {x y : ViewD} (h0 : x.Grid = y.Grid) (h1 : x.X = y.X) (h2 : x.Y = y.Y) (h3 : x.Hide = y.Hide) : x = y := by cases x; cases y; simp_all
theorem ViewD.iff' {x y : ViewD} : x = y ↔ x.Grid = y.Grid ∧ x.X = y.X ∧ x.Y = y.Y ∧ x.Hide = y.Hide := ⟨fun h => by subst h; simp, fun h => by cases x; cases y; simp_all⟩
instance : DecidableEq ViewD := fun x y => decidable_of_iff (x.Grid = y.Grid ∧ x.X = y.X ∧ x.Y = y.Y ∧ x.Hide = y.Hide) ViewD.iff'.symm
structure ProcD where
 Pid : Int
 Pane : Int
theorem ProcD.ext' {x y : ProcD} (h0 : x.Pid = y.Pid) (h1 : x.Pane = y.Pane) : x = y := by cases x; cases y; simp_all
theorem ProcD.iff' {x y : ProcD} : x = y ↔ x.Pid = y.Pid ∧ x.Pane = y.Pane := ⟨fun h => by subst h; simp, fun h => by cases x; cases y; simp_all⟩
instance : DecidableEq ProcD := fun x y => decidable_of_iff (x.Pid = y.Pid ∧ x.Pane = y.Pane) ProcD.iff'.symm
structure AskD where
 Pane : Int
 Cmd : ByteArray
 Dir : ByteArray
 W : Int
 H : Int
 Pid : Int
theorem AskD.ext' {x y : AskD} (h0 : x.Pane = y.Pane) (h1 : x.Cmd = y.Cmd) (h2 : x.Dir = y.Dir) (h3 : x.W = y.W) (h4 : x.H = y.H) (h5 : x.Pid = y.Pid) : x = y := by cases x; cases y; simp_all
theorem AskD.iff' {x y : AskD} : x = y ↔ x.Pane = y.Pane ∧ x.Cmd = y.Cmd ∧ x.Dir = y.Dir ∧ x.W = y.W ∧ x.H = y.H ∧ x.Pid = y.Pid := ⟨fun h => by subst h; simp, fun h => by cases x; cases y; simp_all⟩
instance : DecidableEq AskD := fun x y => decidable_of_iff (x.Pane = y.Pane ∧ x.Cmd = y.Cmd ∧ x.Dir = y.Dir ∧ x.W = y.W ∧ x.H = y.H ∧ x.Pid = y.Pid) AskD.iff'.symm
structure TableD where
 Next : Int
 Live : List ProcD
 Asked : List AskD
theorem TableD.ext' {x y : TableD} (h0 : x.Next = y.Next) (h1 : x.Live = y.Live) (h2 : x.Asked = y.Asked) : x = y := by cases x; cases y; simp_all
theorem TableD.iff' {x y : TableD} : x = y ↔ x.Next = y.Next ∧ x.Live = y.Live ∧ x.Asked = y.Asked := ⟨fun h => by subst h; simp, fun h => by cases x; cases y; simp_all⟩
instance : DecidableEq TableD := fun x y => decidable_of_iff (x.Next = y.Next ∧ x.Live = y.Live ∧ x.Asked = y.Asked) TableD.iff'.symm
structure HistD where
 Lost : Bool
 Op : OpD
theorem HistD.ext' {x y : HistD} (h0 : x.Lost = y.Lost) (h1 : x.Op = y.Op) : x = y := by cases x; cases y; simp_all
theorem HistD.iff' {x y : HistD} : x = y ↔ x.Lost = y.Lost ∧ x.Op = y.Op := ⟨fun h => by subst h; simp, fun h => by cases x; cases y; simp_all⟩
instance : DecidableEq HistD := fun x y => decidable_of_iff (x.Lost = y.Lost ∧ x.Op = y.Op) HistD.iff'.symm
structure SrvD where
 Base : StateD
 Top : Int
 Up : Bool
 St : StateD
 Dep : DepotD
 Disk : DiskD
 Tab : TableD
 Sure : Int
 Done : List HistD
theorem SrvD.ext' {x y : SrvD} (h0 : x.Base = y.Base) (h1 : x.Top = y.Top) (h2 : x.Up = y.Up) (h3 : x.St = y.St) (h4 : x.Dep = y.Dep) (h5 : x.Disk = y.Disk) (h6 : x.Tab = y.Tab) (h7 : x.Sure = y.Sure) (h8 : x.Done = y.Done) : x = y := by cases x; cases y; simp_all
theorem SrvD.iff' {x y : SrvD} : x = y ↔ x.Base = y.Base ∧ x.Top = y.Top ∧ x.Up = y.Up ∧ x.St = y.St ∧ x.Dep = y.Dep ∧ x.Disk = y.Disk ∧ x.Tab = y.Tab ∧ x.Sure = y.Sure ∧ x.Done = y.Done := ⟨fun h => by subst h; simp, fun h => by cases x; cases y; simp_all⟩
instance : DecidableEq SrvD := fun x y => decidable_of_iff (x.Base = y.Base ∧ x.Top = y.Top ∧ x.Up = y.Up ∧ x.St = y.St ∧ x.Dep = y.Dep ∧ x.Disk = y.Disk ∧ x.Tab = y.Tab ∧ x.Sure = y.Sure ∧ x.Done = y.Done) SrvD.iff'.symm
structure StepD where
 Kind : Int
 A : Int
 B : Int
 Text : ByteArray
 Data : List UInt8
 Cuts : List Int
theorem StepD.ext' {x y : StepD} (h0 : x.Kind = y.Kind) (h1 : x.A = y.A) (h2 : x.B = y.B) (h3 : x.Text = y.Text) (h4 : x.Data = y.Data) (h5 : x.Cuts = y.Cuts) : x = y := by cases x; cases y; simp_all
theorem StepD.iff' {x y : StepD} : x = y ↔ x.Kind = y.Kind ∧ x.A = y.A ∧ x.B = y.B ∧ x.Text = y.Text ∧ x.Data = y.Data ∧ x.Cuts = y.Cuts := ⟨fun h => by subst h; simp, fun h => by cases x; cases y; simp_all⟩
instance : DecidableEq StepD := fun x y => decidable_of_iff (x.Kind = y.Kind ∧ x.A = y.A ∧ x.B = y.B ∧ x.Text = y.Text ∧ x.Data = y.Data ∧ x.Cuts = y.Cuts) StepD.iff'.symm
structure RectD where
 Pane : Int
 X : Int
 Y : Int
 W : Int
 H : Int
theorem RectD.ext' {x y : RectD} (h0 : x.Pane = y.Pane) (h1 : x.X = y.X) (h2 : x.Y = y.Y) (h3 : x.W = y.W) (h4 : x.H = y.H) : x = y := by cases x; cases y; simp_all
theorem RectD.iff' {x y : RectD} : x = y ↔ x.Pane = y.Pane ∧ x.X = y.X ∧ x.Y = y.Y ∧ x.W = y.W ∧ x.H = y.H := ⟨fun h => by subst h; simp, fun h => by cases x; cases y; simp_all⟩
instance : DecidableEq RectD := fun x y => decidable_of_iff (x.Pane = y.Pane ∧ x.X = y.X ∧ x.Y = y.Y ∧ x.W = y.W ∧ x.H = y.H) RectD.iff'.symm
structure GridR where
  W : Int
  H : Int
  Cells : SlD CellD
def encGridR : Enc GridR := ⟨3, fun d => [i64 d.W, i64 d.H, .slice d.Cells.A d.Cells.n d.Cells.c], ⟨0, 0, ⟨none, 0, 0, []⟩⟩, fun _ => rfl, fun x v h => by simp at h; rcases h with rfl | rfl | rfl <;> rfl, by decide⟩
structure okGridR (B : Nat) (w : World) (x : GridR) : Prop where
  Cells : SlF encCell w x.Cells.A x.Cells.n x.Cells.xs
  Cells_c : x.Cells.n ≤ x.Cells.c
  Cells_n : x.Cells.n ≤ B
structure sepGridR (T : List Nat) (x : GridR) : Prop where
  Cells : 0 < x.Cells.n → (adr x.Cells.A).block ∉ T
theorem okGridR.st0 {B : Nat} {w0 w : World} {L : Hp} {x : GridR} (h : okGridR B w0 x) (hs : St w0 [] L w) : okGridR B w x := ⟨SlF.st0 h.Cells hs, h.Cells_c, h.Cells_n⟩
theorem okGridR.st {B : Nat} {w0 w : World} {T : List Nat} {L : Hp} {x : GridR} (h : okGridR B w0 x) (hs : St w0 T L w) (hp : sepGridR T x) : okGridR B w x := ⟨SlF.st h.Cells hs hp.Cells, h.Cells_c, h.Cells_n⟩
def GridR.dat (x : GridR) : GridD := ⟨x.W, x.H, x.Cells.xs⟩
def smGrid (B : Nat) (d : GridD) : Prop := (d.Cells.length ≤ B)
def totGrid (d : GridD) : Nat := d.Cells.length
theorem totGrid_sm {B : Nat} {d : GridD} (h : totGrid d ≤ B) : smGrid B d := by
  simp only [totGrid] at h
  unfold smGrid
  exact (by omega)
def ownGridR (x : GridR) (L : Hp) : Prop := OwnF encCell 58 (.slice x.Cells.A x.Cells.n x.Cells.c) x.Cells.xs L
theorem ownGridR.len {x : GridR} {L : Hp} (h : ownGridR x L) : x.Cells.xs.length = x.Cells.n := by
  exact (OwnF.len_ h)
theorem ownGridR.ok {B : Nat} {w : World} {x : GridR} {L : Hp} (h : ownGridR x L) (hh : ∀ p, p ∈ L → w.heap[p.1]? = some p.2) (h2 : smGrid B x.dat) : okGridR B w x := by
  exact ⟨SlF.ofOwn h (fun p hp => hh p hp), OwnF.cap h, (by have := OwnF.len_ h; have h3 := h2; simp only [GridR.dat, smGrid] at h3; omega)⟩
structure VpR where
  State : Int
  Mark : Bool
  Args : SlD Int
  Part : SlD UInt8
structure okVpR (B : Nat) (w : World) (x : VpR) : Prop where
  Args : SlF encI w x.Args.A x.Args.n x.Args.xs
  Args_c : x.Args.n ≤ x.Args.c
  Args_n : x.Args.n ≤ B
  Part : SlF encB w x.Part.A x.Part.n x.Part.xs
  Part_c : x.Part.n ≤ x.Part.c
  Part_n : x.Part.n ≤ B
structure sepVpR (T : List Nat) (x : VpR) : Prop where
  Args : 0 < x.Args.n → (adr x.Args.A).block ∉ T
  Part : 0 < x.Part.n → (adr x.Part.A).block ∉ T
theorem okVpR.st0 {B : Nat} {w0 w : World} {L : Hp} {x : VpR} (h : okVpR B w0 x) (hs : St w0 [] L w) : okVpR B w x := ⟨SlF.st0 h.Args hs, h.Args_c, h.Args_n, SlF.st0 h.Part hs, h.Part_c, h.Part_n⟩
theorem okVpR.st {B : Nat} {w0 w : World} {T : List Nat} {L : Hp} {x : VpR} (h : okVpR B w0 x) (hs : St w0 T L w) (hp : sepVpR T x) : okVpR B w x := ⟨SlF.st h.Args hs hp.Args, h.Args_c, h.Args_n, SlF.st h.Part hs hp.Part, h.Part_c, h.Part_n⟩
def VpR.dat (x : VpR) : VpD := ⟨x.State, x.Mark, x.Args.xs, x.Part.xs⟩
def smVp (B : Nat) (d : VpD) : Prop := (d.Args.length ≤ B) ∧ (d.Part.length ≤ B)
def ownVpR (x : VpR) (L : Hp) : Prop := ∃ L1 L2, L = L1 ++ L2 ∧ OwnF encI 3 (.slice x.Args.A x.Args.n x.Args.c) x.Args.xs L1 ∧ OwnF encB 5 (.slice x.Part.A x.Part.n x.Part.c) x.Part.xs L2
theorem ownVpR.fold {w0 w : World} {T : List Nat} {L1 L2 R : Hp} (x : VpR) (hs : St w0 T (L1 ++ (L2 ++ R)) w) (o1 : OwnF encI 3 (.slice x.Args.A x.Args.n x.Args.c) x.Args.xs L1) (o2 : OwnF encB 5 (.slice x.Part.A x.Part.n x.Part.c) x.Part.xs L2) : ∃ L, St w0 T (L ++ R) w ∧ ownVpR x L := ⟨L1 ++ L2, by simpa only [List.append_assoc] using hs, L1, L2, rfl, o1, o2⟩
theorem ownVpR.fl {w0 w : World} {T : List Nat} {L1 L2 L S1 S2 : Hp} [k1 : Fr1 L1 L S1] [k2 : Fr1 L2 S1 S2] {A1 : Option Addr} {n1 c1 : Nat} {x1 : _} {A2 : Option Addr} {n2 c2 : Nat} {x2 : _} (hs : St w0 T L w) (o1 : OwnF encI 3 (.slice A1 n1 c1) x1 L1) (o2 : OwnF encB 5 (.slice A2 n2 c2) x2 L2) : ∃ L', St w0 T (L' ++ S2) w ∧ ownVpR ⟨0, false, ⟨A1, n1, c1, x1⟩, ⟨A2, n2, c2, x2⟩⟩ L' := ⟨L1 ++ L2, by simpa only [List.append_assoc] using hs.perm ((List.Perm.append_left L1 k2.pf).trans k1.pf), L1, L2, rfl, o1, o2⟩
theorem ownVpR.op {w0 w : World} {T : List Nat} {L LL R : Hp} {x : VpR} [k : Fr1 LL L R] (hs : St w0 T L w) (h : ownVpR x LL) : ∃ L1 L2, St w0 T (L1 ++ (L2 ++ R)) w ∧ OwnF encI 3 (.slice x.Args.A x.Args.n x.Args.c) x.Args.xs L1 ∧ OwnF encB 5 (.slice x.Part.A x.Part.n x.Part.c) x.Part.xs L2 := by
  have hs := hs.fr LL
  obtain ⟨L1, L2, rfl, h⟩ := h
  exact ⟨L1, L2, by simpa only [List.append_assoc] using hs, h⟩
theorem ownVpR.ret {w w' : World} {K : List Nat} {L1 : Hp} {e : Ending} {D : VpD} {v0 : Int} {v1 : Bool} {A1 : Option Addr} {n1 c1 : Nat} {x1 : _} {A2 : Option Addr} {n2 c2 : Nat} {x2 : _} (he : e = .returned (.agg (List.toArray [i64 v0, .bool v1, .slice A1 n1 c1, .slice A2 n2 c2]))) (hs : St w K L1 w') (ho : ownVpR ⟨0, false, ⟨A1, n1, c1, x1⟩, ⟨A2, n2, c2, x2⟩⟩ L1) (hd : (⟨v0, v1, ⟨A1, n1, c1, x1⟩, ⟨A2, n2, c2, x2⟩⟩ : VpR).dat = D) : ∃ r L1, e = .returned (.agg #[i64 r.State, .bool r.Mark, .slice r.Args.A r.Args.n r.Args.c, .slice r.Part.A r.Part.n r.Part.c]) ∧ St w K L1 w' ∧ ownVpR r L1 ∧ r.dat = D := ⟨⟨v0, v1, ⟨A1, n1, c1, x1⟩, ⟨A2, n2, c2, x2⟩⟩, L1, he, hs, ho, hd⟩
theorem ownVpR.retp {R : Hp} {val : Value} {b t : Nat} {w w' : World} {K : List Nat} {L1 : Hp} {e : Ending} {D : VpD} {v0 : Int} {v1 : Bool} {A1 : Option Addr} {n1 c1 : Nat} {x1 : _} {A2 : Option Addr} {n2 c2 : Nat} {x2 : _} (he : e = .returned val) (hs : St w K ((b, .cells (List.toArray [i64 v0, .bool v1, .slice A1 n1 c1, .slice A2 n2 c2]) t (0, 0)) :: (L1 ++ R)) w') (ho : ownVpR ⟨0, false, ⟨A1, n1, c1, x1⟩, ⟨A2, n2, c2, x2⟩⟩ L1) (hd : (⟨v0, v1, ⟨A1, n1, c1, x1⟩, ⟨A2, n2, c2, x2⟩⟩ : VpR).dat = D) : ∃ r L1, e = .returned val ∧ St w K ([(b, .cells (List.toArray [i64 r.State, .bool r.Mark, .slice r.Args.A r.Args.n r.Args.c, .slice r.Part.A r.Part.n r.Part.c]) t (0, 0))] ++ L1) w' ∧ ownVpR r L1 ∧ r.dat = D := ⟨⟨v0, v1, ⟨A1, n1, c1, x1⟩, ⟨A2, n2, c2, x2⟩⟩, L1, he, St.keepP hs, ho, hd⟩
theorem ownVpR.open_ {w0 w : World} {T : List Nat} {L R : Hp} {x : VpR} (hs : St w0 T (L ++ R) w) (h : ownVpR x L) : ∃ L1 L2, St w0 T (L1 ++ (L2 ++ R)) w ∧ OwnF encI 3 (.slice x.Args.A x.Args.n x.Args.c) x.Args.xs L1 ∧ OwnF encB 5 (.slice x.Part.A x.Part.n x.Part.c) x.Part.xs L2 := by
  obtain ⟨L1, L2, rfl, h⟩ := h
  exact ⟨L1, L2, by simpa only [List.append_assoc] using hs, h⟩
theorem ownVpR.len {x : VpR} {L : Hp} (h : ownVpR x L) : x.Args.xs.length = x.Args.n ∧ x.Part.xs.length = x.Part.n := by
  obtain ⟨L1, L2, rfl, o1, o2⟩ := h
  exact ⟨(OwnF.len_ o1), (OwnF.len_ o2)⟩
theorem ownVpR.ok {B : Nat} {w : World} {x : VpR} {L : Hp} (h : ownVpR x L) (hh : ∀ p, p ∈ L → w.heap[p.1]? = some p.2) (h2 : smVp B x.dat) : okVpR B w x := by
  obtain ⟨L1, L2, rfl, o1, o2⟩ := h
  simp only [List.mem_append] at hh
  exact ⟨SlF.ofOwn o1 (fun p hp => hh p (.inl hp)), OwnF.cap o1, (by have := OwnF.len_ o1; have h3 := h2.1; simp only [VpR.dat, smVp] at h3; omega), SlF.ofOwn o2 (fun p hp => hh p (.inr (hp))), OwnF.cap o2, (by have := OwnF.len_ o2; have h3 := h2.2; simp only [VpR.dat, smVp] at h3; omega)⟩
structure ActR where
  Kind : Int
  R : Int
  Mark : Bool
  Args : SlD Int
structure okActR (B : Nat) (w : World) (x : ActR) : Prop where
  Args : SlF encI w x.Args.A x.Args.n x.Args.xs
  Args_c : x.Args.n ≤ x.Args.c
  Args_n : x.Args.n ≤ B
structure sepActR (T : List Nat) (x : ActR) : Prop where
  Args : 0 < x.Args.n → (adr x.Args.A).block ∉ T
theorem okActR.st0 {B : Nat} {w0 w : World} {L : Hp} {x : ActR} (h : okActR B w0 x) (hs : St w0 [] L w) : okActR B w x := ⟨SlF.st0 h.Args hs, h.Args_c, h.Args_n⟩
theorem okActR.st {B : Nat} {w0 w : World} {T : List Nat} {L : Hp} {x : ActR} (h : okActR B w0 x) (hs : St w0 T L w) (hp : sepActR T x) : okActR B w x := ⟨SlF.st h.Args hs hp.Args, h.Args_c, h.Args_n⟩
def ActR.dat (x : ActR) : ActD := ⟨x.Kind, x.R, x.Mark, x.Args.xs⟩
def smAct (B : Nat) (d : ActD) : Prop := (d.Args.length ≤ B)
def ownActR (x : ActR) (L : Hp) : Prop := OwnF encI 3 (.slice x.Args.A x.Args.n x.Args.c) x.Args.xs L
theorem ownActR.len {x : ActR} {L : Hp} (h : ownActR x L) : x.Args.xs.length = x.Args.n := by
  exact (OwnF.len_ h)
theorem ownActR.ok {B : Nat} {w : World} {x : ActR} {L : Hp} (h : ownActR x L) (hh : ∀ p, p ∈ L → w.heap[p.1]? = some p.2) (h2 : smAct B x.dat) : okActR B w x := by
  exact ⟨SlF.ofOwn h (fun p hp => hh p hp), OwnF.cap h, (by have := OwnF.len_ h; have h3 := h2; simp only [ActR.dat, smAct] at h3; omega)⟩
structure RowR where
  Cells : SlD CellD
def encRowR : Enc RowR := ⟨1, fun d => [.slice d.Cells.A d.Cells.n d.Cells.c], ⟨⟨none, 0, 0, []⟩⟩, fun _ => rfl, fun x v h => by simp at h; rcases h with rfl <;> rfl, by decide⟩
structure okRowR (B : Nat) (w : World) (x : RowR) : Prop where
  Cells : SlF encCell w x.Cells.A x.Cells.n x.Cells.xs
  Cells_c : x.Cells.n ≤ x.Cells.c
  Cells_n : x.Cells.n ≤ B
structure sepRowR (T : List Nat) (x : RowR) : Prop where
  Cells : 0 < x.Cells.n → (adr x.Cells.A).block ∉ T
theorem okRowR.st0 {B : Nat} {w0 w : World} {L : Hp} {x : RowR} (h : okRowR B w0 x) (hs : St w0 [] L w) : okRowR B w x := ⟨SlF.st0 h.Cells hs, h.Cells_c, h.Cells_n⟩
theorem okRowR.st {B : Nat} {w0 w : World} {T : List Nat} {L : Hp} {x : RowR} (h : okRowR B w0 x) (hs : St w0 T L w) (hp : sepRowR T x) : okRowR B w x := ⟨SlF.st h.Cells hs hp.Cells, h.Cells_c, h.Cells_n⟩
def RowR.dat (x : RowR) : RowD := ⟨x.Cells.xs⟩
def smRow (B : Nat) (d : RowD) : Prop := (d.Cells.length ≤ B)
def totRow (d : RowD) : Nat := d.Cells.length
theorem totRow_sm {B : Nat} {d : RowD} (h : totRow d ≤ B) : smRow B d := by
  simp only [totRow] at h
  unfold smRow
  exact (by omega)
def ownRowR (x : RowR) (L : Hp) : Prop := OwnF encCell 58 (.slice x.Cells.A x.Cells.n x.Cells.c) x.Cells.xs L
theorem ownRowR.len {x : RowR} {L : Hp} (h : ownRowR x L) : x.Cells.xs.length = x.Cells.n := by
  exact (OwnF.len_ h)
theorem ownRowR.ok {B : Nat} {w : World} {x : RowR} {L : Hp} (h : ownRowR x L) (hh : ∀ p, p ∈ L → w.heap[p.1]? = some p.2) (h2 : smRow B x.dat) : okRowR B w x := by
  exact ⟨SlF.ofOwn h (fun p hp => hh p hp), OwnF.cap h, (by have := OwnF.len_ h; have h3 := h2; simp only [RowR.dat, smRow] at h3; omega)⟩
structure ScrR where
  W : Int
  H : Int
  Main : GridR
  Alt : GridR
  OnAlt : Bool
  X : Int
  Y : Int
  Wrap : Bool
  A : AttrD
  Top : Int
  Bot : Int
  NoWrap : Bool
  Hide : Bool
  SaveX : Int
  SaveY : Int
  SaveA : AttrD
  Tabs : SlD Int
  Limit : Int
  Back : SlD RowR
structure okScrR (B : Nat) (w : World) (x : ScrR) : Prop where
  Main : okGridR B w x.Main
  Alt : okGridR B w x.Alt
  Tabs : SlF encI w x.Tabs.A x.Tabs.n x.Tabs.xs
  Tabs_c : x.Tabs.n ≤ x.Tabs.c
  Tabs_n : x.Tabs.n ≤ B
  Back : SlN encRowR (okRowR B) w x.Back.A x.Back.n x.Back.xs
  Back_c : x.Back.n ≤ x.Back.c
  Back_n : x.Back.n ≤ B
structure sepScrR (T : List Nat) (x : ScrR) : Prop where
  Main : sepGridR T x.Main
  Alt : sepGridR T x.Alt
  Tabs : 0 < x.Tabs.n → (adr x.Tabs.A).block ∉ T
  Back : 0 < x.Back.n → (adr x.Back.A).block ∉ T
  Back_a : ∀ y, y ∈ x.Back.xs → sepRowR T y
theorem okScrR.st0 {B : Nat} {w0 w : World} {L : Hp} {x : ScrR} (h : okScrR B w0 x) (hs : St w0 [] L w) : okScrR B w x := ⟨okGridR.st0 h.Main hs, okGridR.st0 h.Alt hs, SlF.st0 h.Tabs hs, h.Tabs_c, h.Tabs_n, ⟨SlF.st0 h.Back.sl hs, fun y hy => okRowR.st0 (h.Back.all y hy) hs⟩, h.Back_c, h.Back_n⟩
theorem okScrR.st {B : Nat} {w0 w : World} {T : List Nat} {L : Hp} {x : ScrR} (h : okScrR B w0 x) (hs : St w0 T L w) (hp : sepScrR T x) : okScrR B w x := ⟨okGridR.st h.Main hs hp.Main, okGridR.st h.Alt hs hp.Alt, SlF.st h.Tabs hs hp.Tabs, h.Tabs_c, h.Tabs_n, ⟨SlF.st h.Back.sl hs hp.Back, fun y hy => okRowR.st (h.Back.all y hy) hs (hp.Back_a y hy)⟩, h.Back_c, h.Back_n⟩
def ScrR.dat (x : ScrR) : ScrD := ⟨x.W, x.H, x.Main.dat, x.Alt.dat, x.OnAlt, x.X, x.Y, x.Wrap, x.A, x.Top, x.Bot, x.NoWrap, x.Hide, x.SaveX, x.SaveY, x.SaveA, x.Tabs.xs, x.Limit, x.Back.xs.map RowR.dat⟩
def smScr (B : Nat) (d : ScrD) : Prop := (smGrid B d.Main) ∧ (smGrid B d.Alt) ∧ (d.Tabs.length ≤ B) ∧ (d.Back.length ≤ B) ∧ (∀ y, y ∈ d.Back → smRow B y)
def totScr (d : ScrD) : Nat := d.Main.Cells.length + d.Alt.Cells.length + d.Tabs.length + tots totRow d.Back
theorem totScr_sm {B : Nat} {d : ScrD} (h : totScr d ≤ B) : smScr B d := by
  simp only [totScr] at h
  unfold smScr
  exact ⟨(totGrid_sm (by simp only [totGrid]; omega)), (totGrid_sm (by simp only [totGrid]; omega)), (by omega), (by have := tots_len totRow d.Back; omega), (fun y hy => totRow_sm (by have := tots_mem (f := totRow) hy; omega))⟩
def ownScrR (x : ScrR) (L : Hp) : Prop := ∃ L1 L2 L3 L4, L = L1 ++ (L2 ++ (L3 ++ L4)) ∧ OwnF encCell 58 (.slice x.Main.Cells.A x.Main.Cells.n x.Main.Cells.c) x.Main.Cells.xs L1 ∧ OwnF encCell 58 (.slice x.Alt.Cells.A x.Alt.Cells.n x.Alt.Cells.c) x.Alt.Cells.xs L2 ∧ OwnF encI 3 (.slice x.Tabs.A x.Tabs.n x.Tabs.c) x.Tabs.xs L3 ∧ OwnN encRowR ownRowR 56 (.slice x.Back.A x.Back.n x.Back.c) x.Back.xs L4
theorem ownScrR.fold {w0 w : World} {T : List Nat} {L1 L2 L3 L4 R : Hp} (x : ScrR) (hs : St w0 T (L1 ++ (L2 ++ (L3 ++ (L4 ++ R)))) w) (o1 : OwnF encCell 58 (.slice x.Main.Cells.A x.Main.Cells.n x.Main.Cells.c) x.Main.Cells.xs L1) (o2 : OwnF encCell 58 (.slice x.Alt.Cells.A x.Alt.Cells.n x.Alt.Cells.c) x.Alt.Cells.xs L2) (o3 : OwnF encI 3 (.slice x.Tabs.A x.Tabs.n x.Tabs.c) x.Tabs.xs L3) (o4 : OwnN encRowR ownRowR 56 (.slice x.Back.A x.Back.n x.Back.c) x.Back.xs L4) : ∃ L, St w0 T (L ++ R) w ∧ ownScrR x L := ⟨L1 ++ (L2 ++ (L3 ++ L4)), by simpa only [List.append_assoc] using hs, L1, L2, L3, L4, rfl, o1, o2, o3, o4⟩
theorem ownScrR.fl {w0 w : World} {T : List Nat} {L1 L2 L3 L4 L S1 S2 S3 S4 : Hp} [k1 : Fr1 L1 L S1] [k2 : Fr1 L2 S1 S2] [k3 : Fr1 L3 S2 S3] [k4 : Fr1 L4 S3 S4] {A1 : Option Addr} {n1 c1 : Nat} {x1 : _} {A2 : Option Addr} {n2 c2 : Nat} {x2 : _} {A3 : Option Addr} {n3 c3 : Nat} {x3 : _} {A4 : Option Addr} {n4 c4 : Nat} {x4 : _} (hs : St w0 T L w) (o1 : OwnF encCell 58 (.slice A1 n1 c1) x1 L1) (o2 : OwnF encCell 58 (.slice A2 n2 c2) x2 L2) (o3 : OwnF encI 3 (.slice A3 n3 c3) x3 L3) (o4 : OwnN encRowR ownRowR 56 (.slice A4 n4 c4) x4 L4) : ∃ L', St w0 T (L' ++ S4) w ∧ ownScrR ⟨0, 0, ⟨0, 0, ⟨A1, n1, c1, x1⟩⟩, ⟨0, 0, ⟨A2, n2, c2, x2⟩⟩, false, 0, 0, false, ⟨0, 0, false, false, false⟩, 0, 0, false, false, 0, 0, ⟨0, 0, false, false, false⟩, ⟨A3, n3, c3, x3⟩, 0, ⟨A4, n4, c4, x4⟩⟩ L' := ⟨L1 ++ (L2 ++ (L3 ++ L4)), by simpa only [List.append_assoc] using hs.perm ((List.Perm.append_left L1 ((List.Perm.append_left L2 ((List.Perm.append_left L3 k4.pf).trans k3.pf)).trans k2.pf)).trans k1.pf), L1, L2, L3, L4, rfl, o1, o2, o3, o4⟩
theorem ownScrR.op {w0 w : World} {T : List Nat} {L LL R : Hp} {x : ScrR} [k : Fr1 LL L R] (hs : St w0 T L w) (h : ownScrR x LL) : ∃ L1 L2 L3 L4, St w0 T (L1 ++ (L2 ++ (L3 ++ (L4 ++ R)))) w ∧ OwnF encCell 58 (.slice x.Main.Cells.A x.Main.Cells.n x.Main.Cells.c) x.Main.Cells.xs L1 ∧ OwnF encCell 58 (.slice x.Alt.Cells.A x.Alt.Cells.n x.Alt.Cells.c) x.Alt.Cells.xs L2 ∧ OwnF encI 3 (.slice x.Tabs.A x.Tabs.n x.Tabs.c) x.Tabs.xs L3 ∧ OwnN encRowR ownRowR 56 (.slice x.Back.A x.Back.n x.Back.c) x.Back.xs L4 := by
  have hs := hs.fr LL
  obtain ⟨L1, L2, L3, L4, rfl, h⟩ := h
  exact ⟨L1, L2, L3, L4, by simpa only [List.append_assoc] using hs, h⟩
theorem ownScrR.ret {w w' : World} {K : List Nat} {L1 : Hp} {e : Ending} {D : ScrD} {v0 : Int} {v1 : Int} {v2 : Int} {v3 : Int} {A1 : Option Addr} {n1 c1 : Nat} {x1 : _} {v5 : Int} {v6 : Int} {A2 : Option Addr} {n2 c2 : Nat} {x2 : _} {v8 : Bool} {v9 : Int} {v10 : Int} {v11 : Bool} {v12 : Int} {v13 : Int} {v14 : Bool} {v15 : Bool} {v16 : Bool} {v17 : Int} {v18 : Int} {v19 : Bool} {v20 : Bool} {v21 : Int} {v22 : Int} {v23 : Int} {v24 : Int} {v25 : Bool} {v26 : Bool} {v27 : Bool} {A3 : Option Addr} {n3 c3 : Nat} {x3 : _} {v29 : Int} {A4 : Option Addr} {n4 c4 : Nat} {x4 : _} (he : e = .returned (.agg (List.toArray [i64 v0, i64 v1, i64 v2, i64 v3, .slice A1 n1 c1, i64 v5, i64 v6, .slice A2 n2 c2, .bool v8, i64 v9, i64 v10, .bool v11, i64 v12, i64 v13, .bool v14, .bool v15, .bool v16, i64 v17, i64 v18, .bool v19, .bool v20, i64 v21, i64 v22, i64 v23, i64 v24, .bool v25, .bool v26, .bool v27, .slice A3 n3 c3, i64 v29, .slice A4 n4 c4]))) (hs : St w K L1 w') (ho : ownScrR ⟨0, 0, ⟨0, 0, ⟨A1, n1, c1, x1⟩⟩, ⟨0, 0, ⟨A2, n2, c2, x2⟩⟩, false, 0, 0, false, ⟨0, 0, false, false, false⟩, 0, 0, false, false, 0, 0, ⟨0, 0, false, false, false⟩, ⟨A3, n3, c3, x3⟩, 0, ⟨A4, n4, c4, x4⟩⟩ L1) (hd : (⟨v0, v1, ⟨v2, v3, ⟨A1, n1, c1, x1⟩⟩, ⟨v5, v6, ⟨A2, n2, c2, x2⟩⟩, v8, v9, v10, v11, ⟨v12, v13, v14, v15, v16⟩, v17, v18, v19, v20, v21, v22, ⟨v23, v24, v25, v26, v27⟩, ⟨A3, n3, c3, x3⟩, v29, ⟨A4, n4, c4, x4⟩⟩ : ScrR).dat = D) : ∃ r L1, e = .returned (.agg #[i64 r.W, i64 r.H, i64 r.Main.W, i64 r.Main.H, .slice r.Main.Cells.A r.Main.Cells.n r.Main.Cells.c, i64 r.Alt.W, i64 r.Alt.H, .slice r.Alt.Cells.A r.Alt.Cells.n r.Alt.Cells.c, .bool r.OnAlt, i64 r.X, i64 r.Y, .bool r.Wrap, i64 r.A.Fg, i64 r.A.Bg, .bool r.A.Bold, .bool r.A.Under, .bool r.A.Turn, i64 r.Top, i64 r.Bot, .bool r.NoWrap, .bool r.Hide, i64 r.SaveX, i64 r.SaveY, i64 r.SaveA.Fg, i64 r.SaveA.Bg, .bool r.SaveA.Bold, .bool r.SaveA.Under, .bool r.SaveA.Turn, .slice r.Tabs.A r.Tabs.n r.Tabs.c, i64 r.Limit, .slice r.Back.A r.Back.n r.Back.c]) ∧ St w K L1 w' ∧ ownScrR r L1 ∧ r.dat = D := ⟨⟨v0, v1, ⟨v2, v3, ⟨A1, n1, c1, x1⟩⟩, ⟨v5, v6, ⟨A2, n2, c2, x2⟩⟩, v8, v9, v10, v11, ⟨v12, v13, v14, v15, v16⟩, v17, v18, v19, v20, v21, v22, ⟨v23, v24, v25, v26, v27⟩, ⟨A3, n3, c3, x3⟩, v29, ⟨A4, n4, c4, x4⟩⟩, L1, he, hs, ho, hd⟩
theorem ownScrR.retp {R : Hp} {val : Value} {b t : Nat} {w w' : World} {K : List Nat} {L1 : Hp} {e : Ending} {D : ScrD} {v0 : Int} {v1 : Int} {v2 : Int} {v3 : Int} {A1 : Option Addr} {n1 c1 : Nat} {x1 : _} {v5 : Int} {v6 : Int} {A2 : Option Addr} {n2 c2 : Nat} {x2 : _} {v8 : Bool} {v9 : Int} {v10 : Int} {v11 : Bool} {v12 : Int} {v13 : Int} {v14 : Bool} {v15 : Bool} {v16 : Bool} {v17 : Int} {v18 : Int} {v19 : Bool} {v20 : Bool} {v21 : Int} {v22 : Int} {v23 : Int} {v24 : Int} {v25 : Bool} {v26 : Bool} {v27 : Bool} {A3 : Option Addr} {n3 c3 : Nat} {x3 : _} {v29 : Int} {A4 : Option Addr} {n4 c4 : Nat} {x4 : _} (he : e = .returned val) (hs : St w K ((b, .cells (List.toArray [i64 v0, i64 v1, i64 v2, i64 v3, .slice A1 n1 c1, i64 v5, i64 v6, .slice A2 n2 c2, .bool v8, i64 v9, i64 v10, .bool v11, i64 v12, i64 v13, .bool v14, .bool v15, .bool v16, i64 v17, i64 v18, .bool v19, .bool v20, i64 v21, i64 v22, i64 v23, i64 v24, .bool v25, .bool v26, .bool v27, .slice A3 n3 c3, i64 v29, .slice A4 n4 c4]) t (0, 0)) :: (L1 ++ R)) w') (ho : ownScrR ⟨0, 0, ⟨0, 0, ⟨A1, n1, c1, x1⟩⟩, ⟨0, 0, ⟨A2, n2, c2, x2⟩⟩, false, 0, 0, false, ⟨0, 0, false, false, false⟩, 0, 0, false, false, 0, 0, ⟨0, 0, false, false, false⟩, ⟨A3, n3, c3, x3⟩, 0, ⟨A4, n4, c4, x4⟩⟩ L1) (hd : (⟨v0, v1, ⟨v2, v3, ⟨A1, n1, c1, x1⟩⟩, ⟨v5, v6, ⟨A2, n2, c2, x2⟩⟩, v8, v9, v10, v11, ⟨v12, v13, v14, v15, v16⟩, v17, v18, v19, v20, v21, v22, ⟨v23, v24, v25, v26, v27⟩, ⟨A3, n3, c3, x3⟩, v29, ⟨A4, n4, c4, x4⟩⟩ : ScrR).dat = D) : ∃ r L1, e = .returned val ∧ St w K ([(b, .cells (List.toArray [i64 r.W, i64 r.H, i64 r.Main.W, i64 r.Main.H, .slice r.Main.Cells.A r.Main.Cells.n r.Main.Cells.c, i64 r.Alt.W, i64 r.Alt.H, .slice r.Alt.Cells.A r.Alt.Cells.n r.Alt.Cells.c, .bool r.OnAlt, i64 r.X, i64 r.Y, .bool r.Wrap, i64 r.A.Fg, i64 r.A.Bg, .bool r.A.Bold, .bool r.A.Under, .bool r.A.Turn, i64 r.Top, i64 r.Bot, .bool r.NoWrap, .bool r.Hide, i64 r.SaveX, i64 r.SaveY, i64 r.SaveA.Fg, i64 r.SaveA.Bg, .bool r.SaveA.Bold, .bool r.SaveA.Under, .bool r.SaveA.Turn, .slice r.Tabs.A r.Tabs.n r.Tabs.c, i64 r.Limit, .slice r.Back.A r.Back.n r.Back.c]) t (0, 0))] ++ L1) w' ∧ ownScrR r L1 ∧ r.dat = D := ⟨⟨v0, v1, ⟨v2, v3, ⟨A1, n1, c1, x1⟩⟩, ⟨v5, v6, ⟨A2, n2, c2, x2⟩⟩, v8, v9, v10, v11, ⟨v12, v13, v14, v15, v16⟩, v17, v18, v19, v20, v21, v22, ⟨v23, v24, v25, v26, v27⟩, ⟨A3, n3, c3, x3⟩, v29, ⟨A4, n4, c4, x4⟩⟩, L1, he, St.keepP hs, ho, hd⟩
theorem ownScrR.open_ {w0 w : World} {T : List Nat} {L R : Hp} {x : ScrR} (hs : St w0 T (L ++ R) w) (h : ownScrR x L) : ∃ L1 L2 L3 L4, St w0 T (L1 ++ (L2 ++ (L3 ++ (L4 ++ R)))) w ∧ OwnF encCell 58 (.slice x.Main.Cells.A x.Main.Cells.n x.Main.Cells.c) x.Main.Cells.xs L1 ∧ OwnF encCell 58 (.slice x.Alt.Cells.A x.Alt.Cells.n x.Alt.Cells.c) x.Alt.Cells.xs L2 ∧ OwnF encI 3 (.slice x.Tabs.A x.Tabs.n x.Tabs.c) x.Tabs.xs L3 ∧ OwnN encRowR ownRowR 56 (.slice x.Back.A x.Back.n x.Back.c) x.Back.xs L4 := by
  obtain ⟨L1, L2, L3, L4, rfl, h⟩ := h
  exact ⟨L1, L2, L3, L4, by simpa only [List.append_assoc] using hs, h⟩
theorem ownScrR.len {x : ScrR} {L : Hp} (h : ownScrR x L) : x.Main.Cells.xs.length = x.Main.Cells.n ∧ x.Alt.Cells.xs.length = x.Alt.Cells.n ∧ x.Tabs.xs.length = x.Tabs.n ∧ x.Back.xs.length = x.Back.n := by
  obtain ⟨L1, L2, L3, L4, rfl, o1, o2, o3, o4⟩ := h
  exact ⟨(OwnF.len_ o1), (OwnF.len_ o2), (OwnF.len_ o3), (OwnN.len_ o4)⟩
theorem ownScrR.ok {B : Nat} {w : World} {x : ScrR} {L : Hp} (h : ownScrR x L) (hh : ∀ p, p ∈ L → w.heap[p.1]? = some p.2) (h2 : smScr B x.dat) : okScrR B w x := by
  obtain ⟨L1, L2, L3, L4, rfl, o1, o2, o3, o4⟩ := h
  simp only [List.mem_append] at hh
  exact ⟨⟨SlF.ofOwn o1 (fun p hp => hh p (.inl hp)), OwnF.cap o1, (by have := OwnF.len_ o1; have h3 := h2.1; simp only [GridR.dat, ScrR.dat, smGrid, smScr] at h3; omega)⟩, ⟨SlF.ofOwn o2 (fun p hp => hh p (.inr (.inl hp))), OwnF.cap o2, (by have := OwnF.len_ o2; have h3 := h2.2.1; simp only [GridR.dat, ScrR.dat, smGrid, smScr] at h3; omega)⟩, SlF.ofOwn o3 (fun p hp => hh p (.inr (.inr (.inl hp)))), OwnF.cap o3, (by have := OwnF.len_ o3; have h3 := h2.2.2.1; simp only [GridR.dat, ScrR.dat, smGrid, smScr] at h3; omega), OwnN.ok o4 (fun p hp => hh p (.inr (.inr (.inr (hp))))) (fun y Li hy h3 hl => h3.ok hl (h2.2.2.2.2 _ (List.mem_map_of_mem hy))), OwnN.cap o4, (by have := OwnN.len_ o4; have h3 := h2.2.2.2.1; simp only [GridR.dat, ScrR.dat, smGrid, smScr, List.length_map] at h3; omega)⟩
structure TermR where
  P : VpR
  S : ScrR
structure okTermR (B : Nat) (w : World) (x : TermR) : Prop where
  P : okVpR B w x.P
  S : okScrR B w x.S
structure sepTermR (T : List Nat) (x : TermR) : Prop where
  P : sepVpR T x.P
  S : sepScrR T x.S
theorem okTermR.st0 {B : Nat} {w0 w : World} {L : Hp} {x : TermR} (h : okTermR B w0 x) (hs : St w0 [] L w) : okTermR B w x := ⟨okVpR.st0 h.P hs, okScrR.st0 h.S hs⟩
theorem okTermR.st {B : Nat} {w0 w : World} {T : List Nat} {L : Hp} {x : TermR} (h : okTermR B w0 x) (hs : St w0 T L w) (hp : sepTermR T x) : okTermR B w x := ⟨okVpR.st h.P hs hp.P, okScrR.st h.S hs hp.S⟩
def TermR.dat (x : TermR) : TermD := ⟨x.P.dat, x.S.dat⟩
def smTerm (B : Nat) (d : TermD) : Prop := (smVp B d.P) ∧ (smScr B d.S)
def ownTermR (x : TermR) (L : Hp) : Prop := ∃ L1 L2 L3 L4 L5 L6, L = L1 ++ (L2 ++ (L3 ++ (L4 ++ (L5 ++ L6)))) ∧ OwnF encI 3 (.slice x.P.Args.A x.P.Args.n x.P.Args.c) x.P.Args.xs L1 ∧ OwnF encB 5 (.slice x.P.Part.A x.P.Part.n x.P.Part.c) x.P.Part.xs L2 ∧ OwnF encCell 58 (.slice x.S.Main.Cells.A x.S.Main.Cells.n x.S.Main.Cells.c) x.S.Main.Cells.xs L3 ∧ OwnF encCell 58 (.slice x.S.Alt.Cells.A x.S.Alt.Cells.n x.S.Alt.Cells.c) x.S.Alt.Cells.xs L4 ∧ OwnF encI 3 (.slice x.S.Tabs.A x.S.Tabs.n x.S.Tabs.c) x.S.Tabs.xs L5 ∧ OwnN encRowR ownRowR 56 (.slice x.S.Back.A x.S.Back.n x.S.Back.c) x.S.Back.xs L6
theorem ownTermR.fold {w0 w : World} {T : List Nat} {L1 L2 L3 L4 L5 L6 R : Hp} (x : TermR) (hs : St w0 T (L1 ++ (L2 ++ (L3 ++ (L4 ++ (L5 ++ (L6 ++ R)))))) w) (o1 : OwnF encI 3 (.slice x.P.Args.A x.P.Args.n x.P.Args.c) x.P.Args.xs L1) (o2 : OwnF encB 5 (.slice x.P.Part.A x.P.Part.n x.P.Part.c) x.P.Part.xs L2) (o3 : OwnF encCell 58 (.slice x.S.Main.Cells.A x.S.Main.Cells.n x.S.Main.Cells.c) x.S.Main.Cells.xs L3) (o4 : OwnF encCell 58 (.slice x.S.Alt.Cells.A x.S.Alt.Cells.n x.S.Alt.Cells.c) x.S.Alt.Cells.xs L4) (o5 : OwnF encI 3 (.slice x.S.Tabs.A x.S.Tabs.n x.S.Tabs.c) x.S.Tabs.xs L5) (o6 : OwnN encRowR ownRowR 56 (.slice x.S.Back.A x.S.Back.n x.S.Back.c) x.S.Back.xs L6) : ∃ L, St w0 T (L ++ R) w ∧ ownTermR x L := ⟨L1 ++ (L2 ++ (L3 ++ (L4 ++ (L5 ++ L6)))), by simpa only [List.append_assoc] using hs, L1, L2, L3, L4, L5, L6, rfl, o1, o2, o3, o4, o5, o6⟩
theorem ownTermR.fl {w0 w : World} {T : List Nat} {L1 L2 L3 L4 L5 L6 L S1 S2 S3 S4 S5 S6 : Hp} [k1 : Fr1 L1 L S1] [k2 : Fr1 L2 S1 S2] [k3 : Fr1 L3 S2 S3] [k4 : Fr1 L4 S3 S4] [k5 : Fr1 L5 S4 S5] [k6 : Fr1 L6 S5 S6] {A1 : Option Addr} {n1 c1 : Nat} {x1 : _} {A2 : Option Addr} {n2 c2 : Nat} {x2 : _} {A3 : Option Addr} {n3 c3 : Nat} {x3 : _} {A4 : Option Addr} {n4 c4 : Nat} {x4 : _} {A5 : Option Addr} {n5 c5 : Nat} {x5 : _} {A6 : Option Addr} {n6 c6 : Nat} {x6 : _} (hs : St w0 T L w) (o1 : OwnF encI 3 (.slice A1 n1 c1) x1 L1) (o2 : OwnF encB 5 (.slice A2 n2 c2) x2 L2) (o3 : OwnF encCell 58 (.slice A3 n3 c3) x3 L3) (o4 : OwnF encCell 58 (.slice A4 n4 c4) x4 L4) (o5 : OwnF encI 3 (.slice A5 n5 c5) x5 L5) (o6 : OwnN encRowR ownRowR 56 (.slice A6 n6 c6) x6 L6) : ∃ L', St w0 T (L' ++ S6) w ∧ ownTermR ⟨⟨0, false, ⟨A1, n1, c1, x1⟩, ⟨A2, n2, c2, x2⟩⟩, ⟨0, 0, ⟨0, 0, ⟨A3, n3, c3, x3⟩⟩, ⟨0, 0, ⟨A4, n4, c4, x4⟩⟩, false, 0, 0, false, ⟨0, 0, false, false, false⟩, 0, 0, false, false, 0, 0, ⟨0, 0, false, false, false⟩, ⟨A5, n5, c5, x5⟩, 0, ⟨A6, n6, c6, x6⟩⟩⟩ L' := ⟨L1 ++ (L2 ++ (L3 ++ (L4 ++ (L5 ++ L6)))), by simpa only [List.append_assoc] using hs.perm ((List.Perm.append_left L1 ((List.Perm.append_left L2 ((List.Perm.append_left L3 ((List.Perm.append_left L4 ((List.Perm.append_left L5 k6.pf).trans k5.pf)).trans k4.pf)).trans k3.pf)).trans k2.pf)).trans k1.pf), L1, L2, L3, L4, L5, L6, rfl, o1, o2, o3, o4, o5, o6⟩
theorem ownTermR.op {w0 w : World} {T : List Nat} {L LL R : Hp} {x : TermR} [k : Fr1 LL L R] (hs : St w0 T L w) (h : ownTermR x LL) : ∃ L1 L2 L3 L4 L5 L6, St w0 T (L1 ++ (L2 ++ (L3 ++ (L4 ++ (L5 ++ (L6 ++ R)))))) w ∧ OwnF encI 3 (.slice x.P.Args.A x.P.Args.n x.P.Args.c) x.P.Args.xs L1 ∧ OwnF encB 5 (.slice x.P.Part.A x.P.Part.n x.P.Part.c) x.P.Part.xs L2 ∧ OwnF encCell 58 (.slice x.S.Main.Cells.A x.S.Main.Cells.n x.S.Main.Cells.c) x.S.Main.Cells.xs L3 ∧ OwnF encCell 58 (.slice x.S.Alt.Cells.A x.S.Alt.Cells.n x.S.Alt.Cells.c) x.S.Alt.Cells.xs L4 ∧ OwnF encI 3 (.slice x.S.Tabs.A x.S.Tabs.n x.S.Tabs.c) x.S.Tabs.xs L5 ∧ OwnN encRowR ownRowR 56 (.slice x.S.Back.A x.S.Back.n x.S.Back.c) x.S.Back.xs L6 := by
  have hs := hs.fr LL
  obtain ⟨L1, L2, L3, L4, L5, L6, rfl, h⟩ := h
  exact ⟨L1, L2, L3, L4, L5, L6, by simpa only [List.append_assoc] using hs, h⟩
theorem ownTermR.ret {w w' : World} {K : List Nat} {L1 : Hp} {e : Ending} {D : TermD} {v0 : Int} {v1 : Bool} {A1 : Option Addr} {n1 c1 : Nat} {x1 : _} {A2 : Option Addr} {n2 c2 : Nat} {x2 : _} {v4 : Int} {v5 : Int} {v6 : Int} {v7 : Int} {A3 : Option Addr} {n3 c3 : Nat} {x3 : _} {v9 : Int} {v10 : Int} {A4 : Option Addr} {n4 c4 : Nat} {x4 : _} {v12 : Bool} {v13 : Int} {v14 : Int} {v15 : Bool} {v16 : Int} {v17 : Int} {v18 : Bool} {v19 : Bool} {v20 : Bool} {v21 : Int} {v22 : Int} {v23 : Bool} {v24 : Bool} {v25 : Int} {v26 : Int} {v27 : Int} {v28 : Int} {v29 : Bool} {v30 : Bool} {v31 : Bool} {A5 : Option Addr} {n5 c5 : Nat} {x5 : _} {v33 : Int} {A6 : Option Addr} {n6 c6 : Nat} {x6 : _} (he : e = .returned (.agg (List.toArray [i64 v0, .bool v1, .slice A1 n1 c1, .slice A2 n2 c2, i64 v4, i64 v5, i64 v6, i64 v7, .slice A3 n3 c3, i64 v9, i64 v10, .slice A4 n4 c4, .bool v12, i64 v13, i64 v14, .bool v15, i64 v16, i64 v17, .bool v18, .bool v19, .bool v20, i64 v21, i64 v22, .bool v23, .bool v24, i64 v25, i64 v26, i64 v27, i64 v28, .bool v29, .bool v30, .bool v31, .slice A5 n5 c5, i64 v33, .slice A6 n6 c6]))) (hs : St w K L1 w') (ho : ownTermR ⟨⟨0, false, ⟨A1, n1, c1, x1⟩, ⟨A2, n2, c2, x2⟩⟩, ⟨0, 0, ⟨0, 0, ⟨A3, n3, c3, x3⟩⟩, ⟨0, 0, ⟨A4, n4, c4, x4⟩⟩, false, 0, 0, false, ⟨0, 0, false, false, false⟩, 0, 0, false, false, 0, 0, ⟨0, 0, false, false, false⟩, ⟨A5, n5, c5, x5⟩, 0, ⟨A6, n6, c6, x6⟩⟩⟩ L1) (hd : (⟨⟨v0, v1, ⟨A1, n1, c1, x1⟩, ⟨A2, n2, c2, x2⟩⟩, ⟨v4, v5, ⟨v6, v7, ⟨A3, n3, c3, x3⟩⟩, ⟨v9, v10, ⟨A4, n4, c4, x4⟩⟩, v12, v13, v14, v15, ⟨v16, v17, v18, v19, v20⟩, v21, v22, v23, v24, v25, v26, ⟨v27, v28, v29, v30, v31⟩, ⟨A5, n5, c5, x5⟩, v33, ⟨A6, n6, c6, x6⟩⟩⟩ : TermR).dat = D) : ∃ r L1, e = .returned (.agg #[i64 r.P.State, .bool r.P.Mark, .slice r.P.Args.A r.P.Args.n r.P.Args.c, .slice r.P.Part.A r.P.Part.n r.P.Part.c, i64 r.S.W, i64 r.S.H, i64 r.S.Main.W, i64 r.S.Main.H, .slice r.S.Main.Cells.A r.S.Main.Cells.n r.S.Main.Cells.c, i64 r.S.Alt.W, i64 r.S.Alt.H, .slice r.S.Alt.Cells.A r.S.Alt.Cells.n r.S.Alt.Cells.c, .bool r.S.OnAlt, i64 r.S.X, i64 r.S.Y, .bool r.S.Wrap, i64 r.S.A.Fg, i64 r.S.A.Bg, .bool r.S.A.Bold, .bool r.S.A.Under, .bool r.S.A.Turn, i64 r.S.Top, i64 r.S.Bot, .bool r.S.NoWrap, .bool r.S.Hide, i64 r.S.SaveX, i64 r.S.SaveY, i64 r.S.SaveA.Fg, i64 r.S.SaveA.Bg, .bool r.S.SaveA.Bold, .bool r.S.SaveA.Under, .bool r.S.SaveA.Turn, .slice r.S.Tabs.A r.S.Tabs.n r.S.Tabs.c, i64 r.S.Limit, .slice r.S.Back.A r.S.Back.n r.S.Back.c]) ∧ St w K L1 w' ∧ ownTermR r L1 ∧ r.dat = D := ⟨⟨⟨v0, v1, ⟨A1, n1, c1, x1⟩, ⟨A2, n2, c2, x2⟩⟩, ⟨v4, v5, ⟨v6, v7, ⟨A3, n3, c3, x3⟩⟩, ⟨v9, v10, ⟨A4, n4, c4, x4⟩⟩, v12, v13, v14, v15, ⟨v16, v17, v18, v19, v20⟩, v21, v22, v23, v24, v25, v26, ⟨v27, v28, v29, v30, v31⟩, ⟨A5, n5, c5, x5⟩, v33, ⟨A6, n6, c6, x6⟩⟩⟩, L1, he, hs, ho, hd⟩
theorem ownTermR.retp {R : Hp} {val : Value} {b t : Nat} {w w' : World} {K : List Nat} {L1 : Hp} {e : Ending} {D : TermD} {v0 : Int} {v1 : Bool} {A1 : Option Addr} {n1 c1 : Nat} {x1 : _} {A2 : Option Addr} {n2 c2 : Nat} {x2 : _} {v4 : Int} {v5 : Int} {v6 : Int} {v7 : Int} {A3 : Option Addr} {n3 c3 : Nat} {x3 : _} {v9 : Int} {v10 : Int} {A4 : Option Addr} {n4 c4 : Nat} {x4 : _} {v12 : Bool} {v13 : Int} {v14 : Int} {v15 : Bool} {v16 : Int} {v17 : Int} {v18 : Bool} {v19 : Bool} {v20 : Bool} {v21 : Int} {v22 : Int} {v23 : Bool} {v24 : Bool} {v25 : Int} {v26 : Int} {v27 : Int} {v28 : Int} {v29 : Bool} {v30 : Bool} {v31 : Bool} {A5 : Option Addr} {n5 c5 : Nat} {x5 : _} {v33 : Int} {A6 : Option Addr} {n6 c6 : Nat} {x6 : _} (he : e = .returned val) (hs : St w K ((b, .cells (List.toArray [i64 v0, .bool v1, .slice A1 n1 c1, .slice A2 n2 c2, i64 v4, i64 v5, i64 v6, i64 v7, .slice A3 n3 c3, i64 v9, i64 v10, .slice A4 n4 c4, .bool v12, i64 v13, i64 v14, .bool v15, i64 v16, i64 v17, .bool v18, .bool v19, .bool v20, i64 v21, i64 v22, .bool v23, .bool v24, i64 v25, i64 v26, i64 v27, i64 v28, .bool v29, .bool v30, .bool v31, .slice A5 n5 c5, i64 v33, .slice A6 n6 c6]) t (0, 0)) :: (L1 ++ R)) w') (ho : ownTermR ⟨⟨0, false, ⟨A1, n1, c1, x1⟩, ⟨A2, n2, c2, x2⟩⟩, ⟨0, 0, ⟨0, 0, ⟨A3, n3, c3, x3⟩⟩, ⟨0, 0, ⟨A4, n4, c4, x4⟩⟩, false, 0, 0, false, ⟨0, 0, false, false, false⟩, 0, 0, false, false, 0, 0, ⟨0, 0, false, false, false⟩, ⟨A5, n5, c5, x5⟩, 0, ⟨A6, n6, c6, x6⟩⟩⟩ L1) (hd : (⟨⟨v0, v1, ⟨A1, n1, c1, x1⟩, ⟨A2, n2, c2, x2⟩⟩, ⟨v4, v5, ⟨v6, v7, ⟨A3, n3, c3, x3⟩⟩, ⟨v9, v10, ⟨A4, n4, c4, x4⟩⟩, v12, v13, v14, v15, ⟨v16, v17, v18, v19, v20⟩, v21, v22, v23, v24, v25, v26, ⟨v27, v28, v29, v30, v31⟩, ⟨A5, n5, c5, x5⟩, v33, ⟨A6, n6, c6, x6⟩⟩⟩ : TermR).dat = D) : ∃ r L1, e = .returned val ∧ St w K ([(b, .cells (List.toArray [i64 r.P.State, .bool r.P.Mark, .slice r.P.Args.A r.P.Args.n r.P.Args.c, .slice r.P.Part.A r.P.Part.n r.P.Part.c, i64 r.S.W, i64 r.S.H, i64 r.S.Main.W, i64 r.S.Main.H, .slice r.S.Main.Cells.A r.S.Main.Cells.n r.S.Main.Cells.c, i64 r.S.Alt.W, i64 r.S.Alt.H, .slice r.S.Alt.Cells.A r.S.Alt.Cells.n r.S.Alt.Cells.c, .bool r.S.OnAlt, i64 r.S.X, i64 r.S.Y, .bool r.S.Wrap, i64 r.S.A.Fg, i64 r.S.A.Bg, .bool r.S.A.Bold, .bool r.S.A.Under, .bool r.S.A.Turn, i64 r.S.Top, i64 r.S.Bot, .bool r.S.NoWrap, .bool r.S.Hide, i64 r.S.SaveX, i64 r.S.SaveY, i64 r.S.SaveA.Fg, i64 r.S.SaveA.Bg, .bool r.S.SaveA.Bold, .bool r.S.SaveA.Under, .bool r.S.SaveA.Turn, .slice r.S.Tabs.A r.S.Tabs.n r.S.Tabs.c, i64 r.S.Limit, .slice r.S.Back.A r.S.Back.n r.S.Back.c]) t (0, 0))] ++ L1) w' ∧ ownTermR r L1 ∧ r.dat = D := ⟨⟨⟨v0, v1, ⟨A1, n1, c1, x1⟩, ⟨A2, n2, c2, x2⟩⟩, ⟨v4, v5, ⟨v6, v7, ⟨A3, n3, c3, x3⟩⟩, ⟨v9, v10, ⟨A4, n4, c4, x4⟩⟩, v12, v13, v14, v15, ⟨v16, v17, v18, v19, v20⟩, v21, v22, v23, v24, v25, v26, ⟨v27, v28, v29, v30, v31⟩, ⟨A5, n5, c5, x5⟩, v33, ⟨A6, n6, c6, x6⟩⟩⟩, L1, he, St.keepP hs, ho, hd⟩
theorem ownTermR.open_ {w0 w : World} {T : List Nat} {L R : Hp} {x : TermR} (hs : St w0 T (L ++ R) w) (h : ownTermR x L) : ∃ L1 L2 L3 L4 L5 L6, St w0 T (L1 ++ (L2 ++ (L3 ++ (L4 ++ (L5 ++ (L6 ++ R)))))) w ∧ OwnF encI 3 (.slice x.P.Args.A x.P.Args.n x.P.Args.c) x.P.Args.xs L1 ∧ OwnF encB 5 (.slice x.P.Part.A x.P.Part.n x.P.Part.c) x.P.Part.xs L2 ∧ OwnF encCell 58 (.slice x.S.Main.Cells.A x.S.Main.Cells.n x.S.Main.Cells.c) x.S.Main.Cells.xs L3 ∧ OwnF encCell 58 (.slice x.S.Alt.Cells.A x.S.Alt.Cells.n x.S.Alt.Cells.c) x.S.Alt.Cells.xs L4 ∧ OwnF encI 3 (.slice x.S.Tabs.A x.S.Tabs.n x.S.Tabs.c) x.S.Tabs.xs L5 ∧ OwnN encRowR ownRowR 56 (.slice x.S.Back.A x.S.Back.n x.S.Back.c) x.S.Back.xs L6 := by
  obtain ⟨L1, L2, L3, L4, L5, L6, rfl, h⟩ := h
  exact ⟨L1, L2, L3, L4, L5, L6, by simpa only [List.append_assoc] using hs, h⟩
theorem ownTermR.len {x : TermR} {L : Hp} (h : ownTermR x L) : x.P.Args.xs.length = x.P.Args.n ∧ x.P.Part.xs.length = x.P.Part.n ∧ x.S.Main.Cells.xs.length = x.S.Main.Cells.n ∧ x.S.Alt.Cells.xs.length = x.S.Alt.Cells.n ∧ x.S.Tabs.xs.length = x.S.Tabs.n ∧ x.S.Back.xs.length = x.S.Back.n := by
  obtain ⟨L1, L2, L3, L4, L5, L6, rfl, o1, o2, o3, o4, o5, o6⟩ := h
  exact ⟨(OwnF.len_ o1), (OwnF.len_ o2), (OwnF.len_ o3), (OwnF.len_ o4), (OwnF.len_ o5), (OwnN.len_ o6)⟩
theorem ownTermR.ok {B : Nat} {w : World} {x : TermR} {L : Hp} (h : ownTermR x L) (hh : ∀ p, p ∈ L → w.heap[p.1]? = some p.2) (h2 : smTerm B x.dat) : okTermR B w x := by
  obtain ⟨L1, L2, L3, L4, L5, L6, rfl, o1, o2, o3, o4, o5, o6⟩ := h
  simp only [List.mem_append] at hh
  exact ⟨⟨SlF.ofOwn o1 (fun p hp => hh p (.inl hp)), OwnF.cap o1, (by have := OwnF.len_ o1; have h3 := h2.1.1; simp only [GridR.dat, ScrR.dat, TermR.dat, VpR.dat, smGrid, smScr, smTerm, smVp] at h3; omega), SlF.ofOwn o2 (fun p hp => hh p (.inr (.inl hp))), OwnF.cap o2, (by have := OwnF.len_ o2; have h3 := h2.1.2; simp only [GridR.dat, ScrR.dat, TermR.dat, VpR.dat, smGrid, smScr, smTerm, smVp] at h3; omega)⟩, ⟨⟨SlF.ofOwn o3 (fun p hp => hh p (.inr (.inr (.inl hp)))), OwnF.cap o3, (by have := OwnF.len_ o3; have h3 := h2.2.1; simp only [GridR.dat, ScrR.dat, TermR.dat, VpR.dat, smGrid, smScr, smTerm, smVp] at h3; omega)⟩, ⟨SlF.ofOwn o4 (fun p hp => hh p (.inr (.inr (.inr (.inl hp))))), OwnF.cap o4, (by have := OwnF.len_ o4; have h3 := h2.2.2.1; simp only [GridR.dat, ScrR.dat, TermR.dat, VpR.dat, smGrid, smScr, smTerm, smVp] at h3; omega)⟩, SlF.ofOwn o5 (fun p hp => hh p (.inr (.inr (.inr (.inr (.inl hp)))))), OwnF.cap o5, (by have := OwnF.len_ o5; have h3 := h2.2.2.2.1; simp only [GridR.dat, ScrR.dat, TermR.dat, VpR.dat, smGrid, smScr, smTerm, smVp] at h3; omega), OwnN.ok o6 (fun p hp => hh p (.inr (.inr (.inr (.inr (.inr (hp))))))) (fun y Li hy h3 hl => h3.ok hl (h2.2.2.2.2.2 _ (List.mem_map_of_mem hy))), OwnN.cap o6, (by have := OwnN.len_ o6; have h3 := h2.2.2.2.2.1; simp only [GridR.dat, ScrR.dat, TermR.dat, VpR.dat, smGrid, smScr, smTerm, smVp, List.length_map] at h3; omega)⟩⟩
def within (n lo hi : Int) : Bool := decide (lo ≤ n) && decide (n ≤ hi)
theorem within_iff {n lo hi : Int} : within n lo hi = true ↔ lo ≤ n ∧ n ≤ hi := by simp [within]
theorem within_not {n lo hi : Int} : within n lo hi = false ↔ ¬ (lo ≤ n ∧ n ≤ hi) := by rw [← within_iff]; simp
def shows (n : Int) : Bool := within n 32 126 || within n 160 65535 && !within n 55296 57343
def isNumB (n : Int) : Bool := decide (0 ≤ n) && decide (n ≤ 4294967295)
def findI {α : Type} (p : α → Bool) (xs : List α) : Int := match xs.findIdx? p with | some i => (i : Int) | none => -1
theorem findI_some {α : Type} {F : Enc α} {p : α → Bool} {xs : List α} {i : Nat} (hi : i < xs.length) (h : ∀ j, j < i → p (gat F xs j) = false) (hp : p (gat F xs i) = true) : findI p xs = i := by
 have e : ∀ j (hj : j < xs.length), gat F xs j = xs[j] := fun j hj => by
  have := gat_get (F := F) hj
  rw [List.getElem?_eq_getElem hj] at this
  exact (Option.some.inj this).symm
 have : xs.findIdx? p = some i := by
  rw [List.findIdx?_eq_some_iff_getElem]
  refine ⟨hi, by rw [← e i hi]; exact hp, fun j hj => ?_⟩
  rw [← e j (by omega), h j hj]
  simp
 simp [findI, this]
theorem findI_none {α : Type} {F : Enc α} {p : α → Bool} {xs : List α} (h : ∀ j, j < xs.length → p (gat F xs j) = false) : findI p xs = -1 := by
 have : xs.findIdx? p = none := by
  rw [List.findIdx?_eq_none_iff]
  intro x hx
  obtain ⟨i, hi, rfl⟩ := List.mem_iff_getElem.1 hx
  have e := gat_get (F := F) hi
  rw [List.getElem?_eq_getElem hi] at e
  rw [Option.some.inj e]
  exact h i hi
 simp [findI, this]
theorem findI_cases {α : Type} {p : α → Bool} {xs : List α} : (findI p xs = -1 ∧ ∀ x, x ∈ xs → p x = false) ∨ ∃ i, ∃ h : i < xs.length, findI p xs = (i : Int) ∧ p xs[i] = true ∧ ∀ j, (hj : j < i) → p (xs[j]'(by omega)) = false := by
 cases e : xs.findIdx? p with
 | none => exact Or.inl ⟨by simp [findI, e], List.findIdx?_eq_none_iff.1 e⟩
 | some i =>
  obtain ⟨h1, h2, h3⟩ := List.findIdx?_eq_some_iff_getElem.1 e
  exact Or.inr ⟨i, h1, by simp [findI, e], h2, fun j hj => by simpa using h3 j hj⟩
def attrOk (fg bg : Int) : Bool := within fg 0 8 && within bg 0 8
def attrNum (a : AttrD) : Int :=
 if attrOk a.Fg a.Bg = true then 72 * a.Bg + 8 * a.Fg + (if a.Bold = true then 1 else 0) + (if a.Under = true then 2 else 0) + (if a.Turn = true then 4 else 0) else -1
def cellOk (c : CellD) : Bool := shows c.R && attrOk c.A.Fg c.A.Bg
def cellsOk (l : List CellD) : Bool := l.all cellOk
theorem cellsOk_gat {l : List CellD} {i : Nat} (h : cellsOk l = true) (hi : i < l.length) : cellOk (gat encCell l i) = true := by
 unfold cellsOk at h
 rw [List.all_eq_true] at h
 exact h _ (gat_mem hi)
theorem cellsOk_not {l : List CellD} {i : Nat} (hi : i < l.length) (h : cellOk (gat encCell l i) = false) : cellsOk l = false := by
 cases e : cellsOk l with
 | false => rfl
 | true => rw [cellsOk_gat e hi] at h; cases h
theorem cellsOk_all {l : List CellD} (h : ∀ i, i < l.length → cellOk (gat encCell l i) = true) : cellsOk l = true := by
 unfold cellsOk
 rw [List.all_eq_true]
 intro x hx
 obtain ⟨i, hi, rfl⟩ := List.mem_iff_getElem.1 hx
 have e := gat_get (F := encCell) hi
 rw [List.getElem?_eq_getElem hi] at e
 rw [Option.some.inj e]
 exact h i hi
theorem cellsOk_find {l : List CellD} : (!decide (0 ≤ findI (fun c => !cellOk c) l)) = cellsOk l := by
 rcases findI_cases (p := fun c => !cellOk c) (xs := l) with ⟨h1, h2⟩ | ⟨i, hi, h1, h2, _⟩
 ·rw [h1]
  have : cellsOk l = true := by
   unfold cellsOk
   rw [List.all_eq_true]
   intro x hx
   simpa using h2 x hx
  rw [this]; decide
 ·rw [h1]
  have : cellsOk l = false := by
   rw [← Bool.not_eq_true]
   intro h
   unfold cellsOk at h
   rw [List.all_eq_true] at h
   have := h _ (List.getElem_mem hi)
   simp [this] at h2
  rw [this]
  simp
def naOk (n : Int) : Bool := decide (0 ≤ n) && decide (n < 648)
def naD (n : Int) : AttrD := if naOk n = true then ⟨n / 8 % 9, n / 72, decide (n % 2 = 1), decide (n / 2 % 2 = 1), decide (n / 4 % 2 = 1)⟩ else ⟨0, 0, false, false, false⟩
theorem naD_ok {n : Int} (h : naOk n = true) : attrOk (naD n).Fg (naD n).Bg = true ∧ attrNum (naD n) = n := by
 have h2 := h
 simp only [naOk, Bool.and_eq_true, decide_eq_true_eq] at h2
 unfold naD
 rw [if_pos h]
 have h3 : attrOk (n / 8 % 9) (n / 72) = true := by simp [attrOk, within]; omega
 refine ⟨h3, ?_⟩
 unfold attrNum
 rw [if_pos h3]
 simp only [decide_eq_true_eq]
 split <;> split <;> split <;> omega
theorem gat_ext {α : Type} {F : Enc α} {a b : List α} (hl : a.length = b.length) (h : ∀ j, j < a.length → gat F a j = gat F b j) : a = b := by
 apply List.ext_getElem hl
 intro i h1 h2
 have e1 := gat_get (F := F) h1
 have e2 := gat_get (F := F) h2
 rw [List.getElem?_eq_getElem h1] at e1
 rw [List.getElem?_eq_getElem h2] at e2
 rw [Option.some.inj e1, Option.some.inj e2]
 exact h i h1
def areArgs (l : List Int) : Bool := decide (l.length ≤ 8) && l.all fun n => within n 0 9999
theorem areArgs_iff {l : List Int} : areArgs l = true ↔ l.length ≤ 8 ∧ ∀ x, x ∈ l → 0 ≤ x ∧ x ≤ 9999 := by
 simp only [areArgs, Bool.and_eq_true, decide_eq_true_eq, List.all_eq_true, within_iff]
theorem all_find {α : Type} {p : α → Bool} {l : List α} : (!decide (0 ≤ findI (fun x => !p x) l)) = l.all p := by
 rcases findI_cases (p := fun c => !p c) (xs := l) with ⟨h1, h2⟩ | ⟨i, hi, h1, h2, _⟩
 ·rw [h1]
  have : l.all p = true := by
   rw [List.all_eq_true]
   intro x hx
   simpa using h2 x hx
  rw [this]; decide
 ·rw [h1]
  have : l.all p = false := by
   rw [← Bool.not_eq_true]
   intro h
   rw [List.all_eq_true] at h
   have h3 := h _ (List.getElem_mem hi)
   rw [h3] at h2; cases h2
  rw [this]; simp
def isSize (w h : Int) : Bool := (within w 1 120 && within h 1 120) && decide (w * h ≤ 4000)
theorem isSize_iff {w h : Int} : isSize w h = true ↔ ((1 ≤ w ∧ w ≤ 120) ∧ 1 ≤ h ∧ h ≤ 120) ∧ w * h ≤ 4000 := by
 simp only [isSize, Bool.and_eq_true, within_iff, decide_eq_true_eq]
theorem mul_size {w h : Int} (hw : 1 ≤ w ∧ w ≤ 120) (hh : 1 ≤ h ∧ h ≤ 120) : 1 ≤ w * h ∧ w * h ≤ 14400 := by
 have h1 : 1 * 1 ≤ w * h := Int.mul_le_mul hw.1 hh.1 (by decide) (by omega)
 have h2 : w * h ≤ 120 * 120 := Int.mul_le_mul hw.2 hh.2 (by omega) (by decide)
 omega
theorem isSize_bnd {w h : Int} (hs : isSize w h = true) : (1 ≤ w ∧ w ≤ 120) ∧ (1 ≤ h ∧ h ≤ 120) ∧ 1 ≤ w * h ∧ w * h ≤ 4000 := by
 have h1 := isSize_iff.1 hs
 have h2 := mul_size h1.1.1 h1.1.2
 exact ⟨h1.1.1, h1.1.2, h2.1, h1.2⟩
abbrev blankC : CellD := ⟨32, ⟨0, 0, false, false, false⟩⟩
abbrev grid0 : GridD := ⟨0, 0, []⟩
def gridNew (w h : Int) : GridD := ⟨w, h, List.replicate (w * h).toNat blankC⟩
def tabsL (w : Int) : List Int := (List.range ((w - 1) / 8).toNat).map fun i : Nat => 8 * ((i : Int) + 1)
abbrev scr0 : ScrD := ⟨0, 0, grid0, grid0, false, 0, 0, false, ⟨0, 0, false, false, false⟩, 0, 0, false, false, 0, 0, ⟨0, 0, false, false, false⟩, [], 0, []⟩
def scrNew (w h l : Int) : ScrD := ⟨w, h, gridNew w h, gridNew w h, false, 0, 0, false, ⟨0, 0, false, false, false⟩, 0, h - 1, false, false, 0, 0, ⟨0, 0, false, false, false⟩, tabsL w, l, []⟩
def scrMay (w h l : Int) : Bool := isSize w h && within l 0 100
def scrRes (w h l : Int) : ScrD := if scrMay w h l = true then scrNew w h l else scr0
theorem tabsL_take {w : Int} {i : Nat} (h : 8 * ((i : Int) + 1) < w) : (List.range (i + 1)).map (fun i : Nat => 8 * ((i : Int) + 1)) = (List.range i).map (fun i : Nat => 8 * ((i : Int) + 1)) ++ [8 * ((i : Int) + 1)] := by
 rw [List.range_succ, List.map_append]; rfl
theorem tabsL_end {w : Int} {i : Nat} (h : ¬ 8 * ((i : Int) + 1) < w) (h2 : i = 0 ∨ 8 * (i : Int) < w) : (List.range i).map (fun i : Nat => 8 * ((i : Int) + 1)) = tabsL w := by
 unfold tabsL
 congr 2
 rcases h2 with rfl | h2 <;> omega
def gridOk (g : GridD) : Bool := (isSize g.W g.H && decide ((g.Cells.length : Int) = g.W * g.H)) && cellsOk g.Cells
def gridHas (g : GridD) (x y : Int) : Bool := within x 0 (g.W - 1) && within y 0 (g.H - 1)
def ascAt (l : List Int) (lo hi : Int) (i : Nat) : Bool := within (iat l i) lo hi && (decide (i = 0) || decide (iat l (i - 1) < iat l i))
def isAsc (l : List Int) (lo hi : Int) : Bool := (List.range l.length).all (ascAt l lo hi)
theorem isAsc_all {l : List Int} {lo hi : Int} (h : ∀ i, i < l.length → ascAt l lo hi i = true) : isAsc l lo hi = true := by
 unfold isAsc
 rw [List.all_eq_true]
 exact fun i hi => h i (List.mem_range.1 hi)
theorem isAsc_not {l : List Int} {lo hi : Int} {i : Nat} (hi' : i < l.length) (h : ascAt l lo hi i = false) : isAsc l lo hi = false := by
 rw [← Bool.not_eq_true]
 intro hh
 unfold isAsc at hh
 rw [List.all_eq_true] at hh
 rw [hh i (List.mem_range.2 hi')] at h
 cases h
def rowOk (r : RowD) : Bool := within r.Cells.length 1 120 && cellsOk r.Cells
def backOk (b : List RowD) (l : Int) : Bool := decide ((b.length : Int) ≤ l) && b.all rowOk
def gridFit (g : GridD) (w h : Int) : Bool := gridOk g && (decide (g.W = w) && decide (g.H = h))
def scrP1 (s : ScrD) : Bool := gridFit s.Main s.W s.H && gridFit s.Alt s.W s.H
def scrP2 (s : ScrD) : Bool := (gridHas s.Main s.X s.Y && gridHas s.Main s.SaveX s.SaveY) && ((!s.Wrap || decide (s.X = s.W - 1)) && (attrOk s.A.Fg s.A.Bg && attrOk s.SaveA.Fg s.SaveA.Bg))
def scrP3 (s : ScrD) : Bool := (decide (0 ≤ s.Top) && decide (s.Top ≤ s.Bot)) && (decide (s.Bot < s.H) && (!decide (s.Top = s.Bot) || decide (s.H = 1)))
def scrP4 (s : ScrD) : Bool := within s.Limit 0 100 && decide ((s.Back.length : Int) ≤ s.Limit)
def scrIn (s : ScrD) : Bool := (scrP1 s && scrP2 s) && (scrP3 s && scrP4 s)
def scrOk (s : ScrD) : Bool := (scrIn s && isAsc s.Tabs 0 (s.W - 1)) && s.Back.all rowOk
theorem gridOk_bnd {g : GridD} (h : gridOk g = true) : (1 ≤ g.W ∧ g.W ≤ 120) ∧ (1 ≤ g.H ∧ g.H ≤ 120) ∧ 1 ≤ g.W * g.H ∧ g.W * g.H ≤ 4000 := by
 unfold gridOk at h
 rw [Bool.and_eq_true, Bool.and_eq_true] at h
 exact isSize_bnd h.1.1
theorem gridFit_bnd {g : GridD} {w h : Int} (hf : gridFit g w h = true) : (1 ≤ w ∧ w ≤ 120) ∧ (1 ≤ h ∧ h ≤ 120) ∧ g.W = w ∧ g.H = h := by
 unfold gridFit at hf
 rw [Bool.and_eq_true, Bool.and_eq_true, decide_eq_true_eq, decide_eq_true_eq] at hf
 have := gridOk_bnd hf.1
 omega
theorem scrP1_bnd {s : ScrD} (h : scrP1 s = true) : (1 ≤ s.W ∧ s.W ≤ 120) ∧ (1 ≤ s.H ∧ s.H ≤ 120) ∧ s.Main.W = s.W ∧ s.Main.H = s.H ∧ s.Alt.W = s.W ∧ s.Alt.H = s.H := by
 unfold scrP1 at h
 rw [Bool.and_eq_true] at h
 have h1 := gridFit_bnd h.1
 have h2 := gridFit_bnd h.2
 omega
theorem scrOk_no {s : ScrD} (h : scrP1 s = false ∨ scrP2 s = false ∨ scrP3 s = false ∨ scrP4 s = false ∨ isAsc s.Tabs 0 (s.W - 1) = false ∨ s.Back.all rowOk = false) : scrOk s = false := by
 unfold scrOk scrIn
 rcases h with h | h | h | h | h | h <;> rw [h] <;> simp
theorem scrOk_yes {s : ScrD} (h1 : scrP1 s = true) (h2 : scrP2 s = true) (h3 : scrP3 s = true) : scrOk s = ((isAsc s.Tabs 0 (s.W - 1) && within s.Limit 0 100) && backOk s.Back s.Limit) := by
 unfold scrOk scrIn scrP4 backOk
 rw [h1, h2, h3]
 simp only [Bool.true_and]
 generalize within s.Limit 0 100 = a
 generalize isAsc s.Tabs 0 (s.W - 1) = b
 generalize decide ((s.Back.length : Int) ≤ s.Limit) = c
 generalize s.Back.all rowOk = d
 cases a <;> cases b <;> cases c <;> cases d <;> rfl
theorem scrOk_all {s : ScrD} (h1 : scrP1 s = true) (h2 : scrP2 s = true) (h3 : scrP3 s = true) (h4 : scrP4 s = true) (h5 : isAsc s.Tabs 0 (s.W - 1) = true) (h6 : s.Back.all rowOk = true) : scrOk s = true := by
 unfold scrOk scrIn
 rw [h1, h2, h3, h4, h5, h6]; rfl
def gridRes (w h : Int) : GridD := if isSize w h = true then gridNew w h else grid0
theorem all_gat {α β : Type} {F : Enc α} {f : α → β} {p : β → Bool} {l : List α} (h : ∀ j, j < l.length → p (f (gat F l j)) = true) : (l.map f).all p = true := by
 rw [List.all_map, List.all_eq_true]
 intro x hx
 obtain ⟨j, hj, rfl⟩ := List.mem_iff_getElem.1 hx
 have := h j hj
 rwa [show gat F l j = l[j] by simp [gat, List.getD, hj]] at this
theorem all_gat_not {α β : Type} {F : Enc α} {f : α → β} {p : β → Bool} {l : List α} {j : Nat} (hj : j < l.length) (h : p (f (gat F l j)) = false) : (l.map f).all p = false := by
 rw [← Bool.not_eq_true]
 intro hh
 rw [List.all_map, List.all_eq_true] at hh
 have h2 : p (f (gat F l j)) = true := hh _ (gat_mem hj)
 rw [h] at h2; cases h2
theorem gat_lt {α : Type} {F : Enc α} {xs : List α} {k : Nat} (h : k < xs.length) : gat F xs k = xs[k] := by
 simp [gat, List.getD, h]
theorem ext_gat {α : Type} {F : Enc α} {xs : List α} {n : Nat} {f : Nat → α} (hl : xs.length = n) (h : ∀ k, k < n → gat F xs k = f k) : xs = (List.range n).map f := by
 apply List.ext_getElem
 ·simpa using hl
 ·intro k h1 h2
  have h3 := h k (by omega)
  rw [gat_lt h1] at h3
  rw [h3]; simp
theorem gat_splice {α : Type} {F : Enc α} {xs ys : List α} {lo m k : Nat} (hy : m ≤ ys.length) (hx : lo + m ≤ xs.length) (hk : k < xs.length) : gat F (xs.take lo ++ ys.take m ++ xs.drop (lo + m)) k = if lo ≤ k ∧ k < lo + m then gat F ys (k - lo) else gat F xs k := by
 have h1 : (xs.take lo).length = lo := by rw [List.length_take]; omega
 have h2 : (ys.take m).length = m := by rw [List.length_take]; omega
 have h3 : (xs.take lo ++ ys.take m ++ xs.drop (lo + m)).length = xs.length := by simp only [List.length_append, h1, h2, List.length_drop]; omega
 rw [gat_lt (by omega)]
 split
 ·rename_i h
  rw [gat_lt (show k - lo < ys.length by omega), List.getElem_append_left (by simp only [List.length_append, h1, h2]; omega), List.getElem_append_right (by omega), List.getElem_take]
  congr 1; omega
 ·rename_i h
  rw [gat_lt hk]
  rcases Nat.lt_or_ge k lo with h4 | h4
  ·rw [List.getElem_append_left (by simp only [List.length_append, h1, h2]; omega), List.getElem_append_left (by omega), List.getElem_take]
  ·rw [List.getElem_append_right (by simp only [List.length_append, h1, h2]; omega), List.getElem_drop]
   congr 1
   simp only [List.length_append, h1, h2]; omega
def gmap (g : GridD) (f : Nat → CellD) : GridD := { g with Cells := (List.range g.Cells.length).map f }
abbrev cat (l : List CellD) (k : Nat) : CellD := gat encCell l k
def rollF (g : GridD) (top bot n : Int) (k : Nat) : CellD :=
 if top ≤ ((k / g.W.toNat : Nat) : Int) ∧ ((k / g.W.toNat : Nat) : Int) ≤ bot then
  (if top ≤ ((k / g.W.toNat : Nat) : Int) + n ∧ ((k / g.W.toNat : Nat) : Int) + n ≤ bot then cat g.Cells ((((k / g.W.toNat : Nat) : Int) + n).toNat * g.W.toNat + k % g.W.toNat) else blankC)
 else cat g.Cells k
def gRoll (g : GridD) (top bot n : Int) : GridD := gmap g (rollF g top bot n)
def shiftF (g : GridD) (x y n : Int) (k : Nat) : CellD :=
 if ((k / g.W.toNat : Nat) : Int) = y ∧ x ≤ ((k % g.W.toNat : Nat) : Int) then
  (if x ≤ ((k % g.W.toNat : Nat) : Int) - n ∧ ((k % g.W.toNat : Nat) : Int) - n < g.W then cat g.Cells ((k / g.W.toNat) * g.W.toNat + (((k % g.W.toNat : Nat) : Int) - n).toNat) else blankC)
 else cat g.Cells k
def gShift (g : GridD) (x y n : Int) : GridD := gmap g (shiftF g x y n)
def fillFn (g : GridD) (x y w h : Int) (c : CellD) (k : Nat) : CellD :=
 if (x ≤ ((k % g.W.toNat : Nat) : Int) ∧ ((k % g.W.toNat : Nat) : Int) < x + w) ∧ y ≤ ((k / g.W.toNat : Nat) : Int) ∧ ((k / g.W.toNat : Nat) : Int) < y + h then c else cat g.Cells k
def gFill (g : GridD) (x y w h : Int) (c : CellD) : GridD := gmap g (fillFn g x y w h c)
theorem gmap_len (g : GridD) (f : Nat → CellD) : (gmap g f).Cells.length = g.Cells.length := by simp [gmap]
theorem rep_first {x : List CellD} {n k : Nat} (h : 1 ≤ n) (hk : k = 1) (hx : x.length = 1) : (List.replicate n encCell.dflt).take 0 ++ x.take (min k n) ++ (List.replicate n encCell.dflt).drop (0 + min k n) = List.replicate 1 (gat encCell x 0) ++ List.replicate (n - 1) encCell.dflt := by
 subst hk
 obtain ⟨c, rfl⟩ := List.length_eq_one_iff.1 hx
 rw [show min 1 n = 1 by omega]
 simp [gat]
theorem rep_next {x d : CellD} {n m : Nat} (h1 : 1 ≤ m) (h2 : m ≤ n) : (List.replicate m x ++ List.replicate (n - m) d).take m ++ ((List.replicate m x ++ List.replicate (n - m) d).take m).take (min (m - 0) (n - m)) ++ (List.replicate m x ++ List.replicate (n - m) d).drop (m + min (m - 0) (n - m)) = List.replicate (m + min m (n - m)) x ++ List.replicate (n - (m + min m (n - m))) d := by
 have e1 : (List.replicate m x ++ List.replicate (n - m) d).take m = List.replicate m x := by
  rw [List.take_append_of_le_length (by simp), List.take_of_length_le (by simp)]
 rw [e1, List.take_replicate, Nat.sub_zero, List.drop_append, List.length_replicate, List.drop_of_length_le (by simp), List.nil_append, List.drop_replicate]
 rw [show min (min m (n - m)) m = min m (n - m) by omega, List.replicate_append_replicate]
 congr 2
 omega
theorem dm_uniq {a b r c w : Nat} (hb : b < w) (hc : c < w) (h : a * w + b = r * w + c) : a = r ∧ b = c := by
 have key : ∀ p q : Nat, q < w → (p * w + q) / w = p := fun p q hq => by
  rw [Nat.mul_comm, Nat.mul_add_div (by omega), Nat.div_eq_of_lt hq, Nat.add_zero]
 have h1 := key a b hb
 rw [h, key r c hc] at h1
 subst h1
 exact ⟨rfl, by omega⟩
theorem dm_at {k w a b : Nat} (hb : b < w) : (k / w = a ∧ k % w = b) ↔ k = a * w + b := by
 have h := Nat.div_add_mod k w
 rw [Nat.mul_comm] at h
 constructor
 ·rintro ⟨h1, h2⟩
  rw [← h1, ← h2]; exact h.symm
 ·intro h1
  exact dm_uniq (Nat.mod_lt _ (by omega)) hb (h.trans h1)
def pasteIn (g h : GridD) (x y : Int) (k : Nat) : Prop :=
 (0 ≤ ((k % g.W.toNat : Nat) : Int) - x ∧ ((k % g.W.toNat : Nat) : Int) - x < h.W) ∧ 0 ≤ ((k / g.W.toNat : Nat) : Int) - y ∧ ((k / g.W.toNat : Nat) : Int) - y < h.H
instance (g h : GridD) (x y : Int) (k : Nat) : Decidable (pasteIn g h x y k) := by unfold pasteIn; infer_instance
theorem divmod_ex {i : Nat} {w h : Int} (hw : 1 ≤ w) (hh : 1 ≤ h) (hi : (i : Int) < w * h) : ∃ q m : Nat, (i : Int) / w = q ∧ (i : Int) % w = m ∧ i = q * w.toNat + m ∧ (m : Int) < w ∧ (q : Int) < h := by
 have hm := Nat.mod_lt i (show 0 < w.toNat by omega)
 have e := Nat.div_add_mod i w.toNat
 rw [Nat.mul_comm] at e
 have ew : w = (w.toNat : Int) := by omega
 have eh : h = (h.toNat : Int) := by omega
 have hd : i / w.toNat < h.toNat := Nat.div_lt_of_lt_mul (by rw [ew, eh] at hi; exact_mod_cast hi)
 refine ⟨i / w.toNat, i % w.toNat, ?_, ?_, e.symm, by omega, by omega⟩
 ·rw [Int.natCast_ediv, ← ew]
 ·rw [Int.natCast_emod, ← ew]
theorem gat_set2 {α : Type} {F : Enc α} {xs : List α} {i k : Nat} {v : α} (hi : i < xs.length) : gat F (xs.set i v) k = if k = i then v else gat F xs k := by
 unfold gat
 rw [List.getD_eq_getElem?_getD, List.getD_eq_getElem?_getD, List.getElem?_set]
 by_cases h : i = k
 ·subst h; simp [hi]
 ·rw [if_neg h, if_neg (Ne.symm h)]
theorem gat_cut {α : Type} {F : Enc α} {xs : List α} {m n k : Nat} (h : k < n) : gat F ((xs.drop m).take n) k = gat F xs (m + k) := by
 unfold gat
 rw [List.getD_eq_getElem?_getD, List.getD_eq_getElem?_getD, List.getElem?_take_of_lt h, List.getElem?_drop]
theorem toNat_mul_nat {a : Nat} {b : Int} (hb : 0 ≤ b) : ((a : Int) * b).toNat = a * b.toNat := by
 rw [Int.toNat_mul (by omega) hb]; rfl
def rowAt (g : GridD) (y : Nat) : RowD := ⟨(g.Cells.drop (y * g.W.toNat)).take g.W.toNat⟩
def lastN {α : Type} (n : Nat) (l : List α) : List α := l.drop (l.length - n)
theorem lastN_len {α : Type} {n : Nat} {l : List α} : (lastN n l).length = min l.length n := by simp [lastN]; omega
theorem lastN_all {α : Type} {n : Nat} {l : List α} (h : l.length ≤ n) : lastN n l = l := by
 unfold lastN; rw [show l.length - n = 0 by omega]; rfl
theorem lastN_snoc {α : Type} {n : Nat} {l : List α} {x : α} : lastN n (lastN n l ++ [x]) = lastN n (l ++ [x]) := by
 unfold lastN
 simp only [List.length_append, List.length_drop, List.length_singleton]
 rcases Nat.lt_or_ge n l.length with h | h
 ·rw [List.drop_append, List.drop_append, List.drop_drop, List.length_drop]
  congr 2 <;> omega
 ·rw [show l.length - n = 0 by omega]
  simp
def keepRows (s : ScrD) (n : Nat) : ScrD := { s with Back := lastN s.Limit.toNat (s.Back ++ (List.range n).map (rowAt s.Main)) }
theorem range_snoc {α : Type} {f : Nat → α} {n : Nat} : (List.range (n + 1)).map f = (List.range n).map f ++ [f n] := by
 rw [List.range_succ, List.map_append]; rfl
theorem keepRows_succ {s : ScrD} {n : Nat} : keepRows s (n + 1) = { keepRows s n with Back := lastN s.Limit.toNat ((keepRows s n).Back ++ [rowAt s.Main n]) } := by
 unfold keepRows
 rw [range_snoc, ← List.append_assoc, ← lastN_snoc]
theorem keepRows_zero {s : ScrD} (h : (s.Back.length : Int) ≤ s.Limit) : keepRows s 0 = s := by
 unfold keepRows
 rw [show (List.range 0).map (rowAt s.Main) = [] from rfl, List.append_nil, lastN_all (by omega)]
theorem smScr_mono {B B' : Nat} {s : ScrD} (h : smScr B s) (hB : B ≤ B') : smScr B' s := ⟨Nat.le_trans h.1 hB, Nat.le_trans h.2.1 hB, Nat.le_trans h.2.2.1 hB, Nat.le_trans h.2.2.2.1 hB, fun y hy => Nat.le_trans (h.2.2.2.2 y hy) hB⟩
theorem rowAt_len {g : GridD} {i : Nat} : (rowAt g i).Cells.length ≤ g.W.toNat := by
 unfold rowAt
 rw [List.length_take]
 exact Nat.min_le_left _ _
def keepTo (s : ScrD) (n : Nat) : ScrD := { s with Back := s.Back ++ (List.range n).map (rowAt s.Main) }
theorem keepTo_zero {s : ScrD} : keepTo s 0 = s := by
 unfold keepTo
 rw [show (List.range 0).map (rowAt s.Main) = [] from rfl, List.append_nil]
theorem keepTo_succ {s : ScrD} {n : Nat} {r : RowD} (h : r = rowAt s.Main n) : keepTo s (n + 1) = { keepTo s n with Back := (keepTo s n).Back ++ [r] } := by
 subst h
 unfold keepTo
 rw [range_snoc, ← List.append_assoc]
theorem keepTo_sm {s : ScrD} {n B : Nat} (h : smScr B s) (hg : gridOk s.Main = true) (hl : s.Back.length + n ≤ B) (hB : 120 ≤ B) : smScr B (keepTo s n) := by
 refine ⟨h.1, h.2.1, h.2.2.1, by simp only [keepTo, List.length_append, List.length_map, List.length_range]; exact hl, fun y hy => ?_⟩
 rcases List.mem_append.1 hy with hy | hy
 ·exact h.2.2.2.2 y hy
 ·obtain ⟨i, _, rfl⟩ := List.mem_map.1 hy
  have h1 := gridOk_bnd hg
  exact Nat.le_trans rowAt_len (by omega)
theorem keepTo_drop {s d : ScrD} {n k : Nat} (h : d = keepTo s n) (hk : k = d.Back.length - s.Limit.toNat) : { d with Back := d.Back.drop k } = keepRows s n := by subst h; subst hk; rfl
theorem keepTo_all {s d : ScrD} {n : Nat} (h : d = keepTo s n) (hk : d.Back.length ≤ s.Limit.toNat) : d = keepRows s n := by
 subst h
 unfold keepRows
 rw [lastN_all (l := s.Back ++ List.map (rowAt s.Main) (List.range n)) hk]; rfl
theorem keepRows_sm {s : ScrD} {n B : Nat} (h : smScr B s) (hg : gridOk s.Main = true) (hB : 120 ≤ B) (hl : s.Limit.toNat ≤ B) : smScr B (keepRows s n) := by
 refine ⟨h.1, h.2.1, h.2.2.1, by simp only [keepRows]; rw [lastN_len]; omega, fun y hy => ?_⟩
 have hy' := List.mem_of_mem_drop hy
 rcases List.mem_append.1 hy' with hy | hy
 ·exact h.2.2.2.2 y hy
 ·obtain ⟨i, _, rfl⟩ := List.mem_map.1 hy
  have h1 := gridOk_bnd hg
  exact Nat.le_trans rowAt_len (by omega)
theorem ownScrR.lens {r : ScrR} {L : Hp} (h : ownScrR r L) : (r.Main.Cells.xs.length = r.Main.Cells.n ∧ r.Main.Cells.n ≤ r.Main.Cells.c) ∧ (r.Alt.Cells.xs.length = r.Alt.Cells.n ∧ r.Alt.Cells.n ≤ r.Alt.Cells.c) ∧ (r.Tabs.xs.length = r.Tabs.n ∧ r.Tabs.n ≤ r.Tabs.c) ∧ (r.Back.xs.length = r.Back.n ∧ r.Back.n ≤ r.Back.c) := by
 obtain ⟨L1, L2, L3, L4, rfl, o1, o2, o3, o4⟩ := h
 exact ⟨⟨OwnF.len_ o1, OwnF.cap o1⟩, ⟨OwnF.len_ o2, OwnF.cap o2⟩, ⟨OwnF.len_ o3, OwnF.cap o3⟩, ⟨OwnN.len_ o4, OwnN.cap o4⟩⟩
def keepOne (s : ScrD) (y : Nat) : ScrD := { s with Back := lastN s.Limit.toNat (s.Back ++ [rowAt s.Main y]) }
theorem keepOne_succ {s : ScrD} {n : Nat} : keepOne (keepRows s n) n = keepRows s (n + 1) := keepRows_succ.symm
theorem keepOne_drop {s : ScrD} {y k : Nat} (hk : k = s.Back.length + 1 - s.Limit.toNat) : { s with Back := (s.Back ++ [rowAt s.Main y]).drop k } = keepOne s y := by
 unfold keepOne lastN
 rw [hk, List.length_append]; rfl
theorem keepOne_all {s : ScrD} {y : Nat} (hk : s.Back.length + 1 ≤ s.Limit.toNat) : { s with Back := s.Back ++ [rowAt s.Main y] } = keepOne s y := by
 unfold keepOne
 rw [lastN_all (by rw [List.length_append]; exact hk)]
theorem gridFit_ok {g : GridD} {w h : Int} (hf : gridFit g w h = true) : gridOk g = true := by
 unfold gridFit at hf
 rw [Bool.and_eq_true] at hf
 exact hf.1
theorem scrOk_P {s : ScrD} (h : scrOk s = true) : scrP1 s = true ∧ scrP2 s = true ∧ scrP3 s = true ∧ scrP4 s = true ∧ isAsc s.Tabs 0 (s.W - 1) = true ∧ s.Back.all rowOk = true := by
 unfold scrOk scrIn at h
 simp only [Bool.and_eq_true] at h
 exact ⟨h.1.1.1.1, h.1.1.1.2, h.1.1.2.1, h.1.1.2.2, h.1.2, h.2⟩
theorem scrOk_main {s : ScrD} (h : scrOk s = true) : gridOk s.Main = true ∧ gridOk s.Alt = true := by
 have h1 := (scrOk_P h).1
 unfold scrP1 at h1
 rw [Bool.and_eq_true] at h1
 exact ⟨gridFit_ok h1.1, gridFit_ok h1.2⟩
theorem scrOk_bnd {s : ScrD} (h : scrOk s = true) : ((1 ≤ s.W ∧ s.W ≤ 120) ∧ (1 ≤ s.H ∧ s.H ≤ 120) ∧ s.Main.W = s.W ∧ s.Main.H = s.H ∧ s.Alt.W = s.W ∧ s.Alt.H = s.H) ∧ ((0 ≤ s.X ∧ s.X < s.W) ∧ 0 ≤ s.Y ∧ s.Y < s.H) ∧ ((0 ≤ s.SaveX ∧ s.SaveX < s.W) ∧ 0 ≤ s.SaveY ∧ s.SaveY < s.H) ∧ (0 ≤ s.Top ∧ s.Top ≤ s.Bot ∧ s.Bot < s.H) ∧ (0 ≤ s.Limit ∧ s.Limit ≤ 100) ∧ (s.Back.length : Int) ≤ s.Limit := by
 obtain ⟨h1, h2, h3, h4, _, _⟩ := scrOk_P h
 have b := scrP1_bnd h1
 unfold scrP2 gridHas at h2
 unfold scrP3 at h3
 unfold scrP4 at h4
 simp only [Bool.and_eq_true, within_iff, decide_eq_true_eq] at h2 h3 h4
 omega
theorem gridOk_new {w h : Int} (hs : isSize w h = true) : gridOk (gridNew w h) = true := by
 obtain ⟨h1, h2, h3, h4⟩ := isSize_bnd hs
 unfold gridOk
 rw [Bool.and_eq_true, Bool.and_eq_true]
 refine ⟨⟨hs, ?_⟩, ?_⟩
 ·rw [decide_eq_true_eq]
  show ((List.replicate (w * h).toNat blankC).length : Int) = w * h
  rw [List.length_replicate]; omega
 ·show cellsOk (List.replicate (w * h).toNat blankC) = true
  unfold cellsOk
  rw [List.all_eq_true]
  intro x hx
  rw [List.mem_replicate] at hx
  rw [hx.2]; decide
theorem tots_le {l : List RowD} {k : Nat} (h : ∀ y, y ∈ l → y.Cells.length ≤ k) : tots totRow l ≤ l.length * (k + 1) := by
 unfold tots
 have : (l.map totRow).sum ≤ l.length * k := by
  induction l with
  | nil => simp
  | cons y r ih =>
   have h1 := ih (fun z hz => h z (List.mem_cons_of_mem _ hz))
   have h2 := h y List.mem_cons_self
   simp only [List.map_cons, List.sum_cons, List.length_cons, totRow, Nat.add_mul]
   omega
 rw [Nat.mul_add]
 omega
theorem rowOk_len {r : RowD} (h : rowOk r = true) : r.Cells.length ≤ 120 := by
 unfold rowOk at h
 rw [Bool.and_eq_true, within_iff] at h
 omega
theorem back_bnd {b : List RowD} {l : Int} (h : ∀ y, y ∈ b → y.Cells.length ≤ 120) (hl : (b.length : Int) ≤ l) (h2 : l ≤ 100) : tots totRow b ≤ 12100 := by
 have h1 := tots_le h
 have h3 : b.length * 121 ≤ 100 * 121 := Nat.mul_le_mul_right _ (by omega)
 omega
theorem scrOk_back {s : ScrD} (h : scrOk s = true) : ∀ y, y ∈ s.Back → y.Cells.length ≤ 120 := by
 have := (scrOk_P h).2.2.2.2.2
 rw [List.all_eq_true] at this
 exact fun y hy => rowOk_len (this y hy)
theorem scrOk_attr {s : ScrD} (h : scrOk s = true) : attrOk s.A.Fg s.A.Bg = true ∧ attrOk s.SaveA.Fg s.SaveA.Bg = true := by
 have h2 := (scrOk_P h).2.1
 unfold scrP2 at h2
 simp only [Bool.and_eq_true] at h2
 exact h2.2.2
theorem gridOk_cells {g : GridD} (h : gridOk g = true) : g.Cells.length ≤ 4000 ∧ cellsOk g.Cells = true := by
 have b := gridOk_bnd h
 unfold gridOk at h
 rw [Bool.and_eq_true, Bool.and_eq_true, decide_eq_true_eq] at h
 exact ⟨by omega, h.2⟩
def partF (g : GridD) (F : Nat → CellD) (lo i k : Nat) : CellD := if lo ≤ k ∧ k < lo + i then F k else cat g.Cells k
theorem partF_zero {g : GridD} {F : Nat → CellD} {lo k : Nat} : partF g F lo 0 k = cat g.Cells k := by
 unfold partF; rw [if_neg (by omega)]
theorem partF_add {g : GridD} {F : Nat → CellD} {lo i m k : Nat} : partF g F lo (i + m) k = if lo + i ≤ k ∧ k < lo + i + m then F k else partF g F lo i k := by
 unfold partF
 by_cases h1 : lo + i ≤ k ∧ k < lo + i + m
 ·rw [if_pos h1, if_pos (by omega)]
 ·rw [if_neg h1]
  by_cases h2 : lo ≤ k ∧ k < lo + i
  ·rw [if_pos h2, if_pos (by omega)]
  ·rw [if_neg h2, if_neg (by omega)]
theorem partF_one {g : GridD} {F : Nat → CellD} {lo i k : Nat} : partF g F lo (i + 1) k = if k = lo + i then F k else partF g F lo i k := by
 rw [partF_add]
 by_cases h : k = lo + i
 ·rw [if_pos h, if_pos (by omega)]
 ·rw [if_neg h, if_neg (by omega)]
theorem at_div {w y x : Nat} (hx : x < w) : (y * w + x) / w = y ∧ (y * w + x) % w = x := (dm_at hx).2 rfl
theorem rollF_row {g : GridD} {top bot n : Int} {y x : Nat} (hw : (x : Int) < g.W) (h1 : top ≤ (y : Int)) (h2 : (y : Int) ≤ bot) : rollF g top bot n (y * g.W.toNat + x) = if top ≤ (y : Int) + n ∧ (y : Int) + n ≤ bot then cat g.Cells (((y : Int) + n).toNat * g.W.toNat + x) else blankC := by
 obtain ⟨e1, e2⟩ := at_div (w := g.W.toNat) (y := y) (x := x) (by omega)
 unfold rollF
 rw [e1, e2, if_pos ⟨h1, h2⟩]
theorem rollF_out {g : GridD} {top bot n : Int} {k : Nat} (h : ¬ (top ≤ ((k / g.W.toNat : Nat) : Int) ∧ ((k / g.W.toNat : Nat) : Int) ≤ bot)) : rollF g top bot n k = cat g.Cells k := by
 unfold rollF; rw [if_neg h]
theorem partF_roll {g : GridD} {top bot n : Int} {k i : Nat} (hw : 0 < g.W.toNat) (ht : 0 ≤ top) (hi : i = (bot - top + 1).toNat * g.W.toNat) (htb : top ≤ bot) : partF g (rollF g top bot n) (top.toNat * g.W.toNat) i k = rollF g top bot n k := by
 unfold partF
 by_cases h : top ≤ ((k / g.W.toNat : Nat) : Int) ∧ ((k / g.W.toNat : Nat) : Int) ≤ bot
 ·rw [if_pos]
  subst hi
  rw [← Nat.add_mul]
  have h3 := Nat.div_add_mod k g.W.toNat
  have h4 := Nat.mod_lt k hw
  rw [Nat.mul_comm] at h3
  have h5 : top.toNat ≤ k / g.W.toNat := by omega
  have h6 : k / g.W.toNat + 1 ≤ top.toNat + (bot - top + 1).toNat := by omega
  have h7 := Nat.mul_le_mul_right g.W.toNat h5
  have h8 := Nat.mul_le_mul_right g.W.toNat h6
  rw [Nat.add_mul, Nat.one_mul] at h8
  omega
 ·rw [rollF_out h]; split <;> rfl
theorem rollF_big {g : GridD} {top bot n m : Int} (h0 : 0 ≤ top) (hb : bot < g.H) (hn : g.H ≤ n ∧ g.H ≤ m ∨ n ≤ -g.H ∧ m ≤ -g.H) : gRoll g top bot n = gRoll g top bot m := by
 unfold gRoll
 congr 1
 funext k
 unfold rollF
 split
 ·rename_i h
  rw [if_neg (by omega), if_neg (by omega)]
 ·rfl
theorem roll_next {g : GridD} {top bot m i : Int} {a c k : Nat} {xs : List CellD} {v : CellD} (h0 : 0 ≤ top) (hi : i = (top + a) * g.W + c) (hw : 0 ≤ g.W) (hl : i.toNat < xs.length) (hc : (c : Int) < g.W) (hb : top + a ≤ bot) (hv : v = if top ≤ top + a + m ∧ top + a + m ≤ bot then cat g.Cells ((top + a + m) * g.W + c).toNat else blankC)
  (hq : cat xs k = partF g (rollF g top bot m) (top.toNat * g.W.toNat) (a * g.W.toNat + c) k) : cat (xs.set i.toNat v) k = partF g (rollF g top bot m) (top.toNat * g.W.toNat) (a * g.W.toNat + c + 1) k := by
 have e1 : i.toNat = (top.toNat + a) * g.W.toNat + c := by
  rw [hi, Int.toNat_add (Int.mul_nonneg (by omega) hw) (by omega), Int.toNat_mul (by omega) hw, Int.toNat_natCast]
  congr 2; omega
 rw [partF_one]
 show gat encCell (xs.set i.toNat v) k = _
 rw [gat_set2 hl, e1, Nat.add_mul, Nat.add_assoc]
 split
 ·rename_i hk
  subst hk
  rw [hv, show top.toNat * g.W.toNat + (a * g.W.toNat + c) = (top.toNat + a) * g.W.toNat + c by rw [Nat.add_mul, Nat.add_assoc], rollF_row hc (by omega) (by omega)]
  rw [show ((top.toNat + a : Nat) : Int) = top + a by omega]
  split
  ·rename_i hs
   congr 1
   rw [Int.toNat_add (Int.mul_nonneg (by omega) hw) (by omega), Int.toNat_mul (by omega) hw, Int.toNat_natCast]
  ·rfl
 ·exact hq
theorem roll_done {g : GridD} {top bot n m w h : Int} {a : Nat} {xs : List CellD} (hg : gridOk g = true) (h0 : 0 ≤ top) (htb : top ≤ bot) (hb : bot < g.H) (ha : (a : Int) = bot - top + 1) (hw : w = g.W) (hh : h = g.H) (hl : xs.length = g.Cells.length) (hm : n = m ∨ (g.H ≤ n ∧ g.H ≤ m ∨ n ≤ -g.H ∧ m ≤ -g.H))
  (hp : ∀ k, k < g.Cells.length → cat xs k = partF g (rollF g top bot m) (top.toNat * g.W.toNat) (a * g.W.toNat) k) : (⟨w, h, xs⟩ : GridD) = gRoll g top bot n := by
 have b := gridOk_bnd hg
 have e : gRoll g top bot n = gRoll g top bot m := by
  rcases hm with hm | hm
  ·rw [hm]
  ·exact rollF_big h0 hb hm
 rw [e, hw, hh]
 unfold gRoll gmap
 congr 1
 refine ext_gat (F := encCell) hl (fun k hk => ?_)
 rw [← partF_roll (g := g) (top := top) (bot := bot) (n := m) (i := a * g.W.toNat) (by omega) h0 (by congr 1; omega) htb]
 exact hp k hk
theorem gat_splice2 {xs ys : List CellD} {lo m k : Nat} (hy : m ≤ ys.length) (hx : lo + m ≤ xs.length) (hk : k < xs.length) : cat (xs.take lo ++ ys.take m ++ xs.drop (lo + m)) k = if lo ≤ k ∧ k < lo + m then cat ys (k - lo) else cat xs k := gat_splice hy hx hk
theorem asc_at {l : List Int} {lo hi : Int} (h : isAsc l lo hi = true) {i : Nat} (hi' : i < l.length) : (lo ≤ iat l i ∧ iat l i ≤ hi) ∧ (0 < i → iat l (i - 1) < iat l i) := by
 unfold isAsc at h
 rw [List.all_eq_true] at h
 have h4 := h i (List.mem_range.2 hi')
 unfold ascAt at h4
 rw [Bool.and_eq_true, within_iff, Bool.or_eq_true, decide_eq_true_eq, decide_eq_true_eq] at h4
 exact ⟨h4.1, fun h0 => by rcases h4.2 with h5 | h5; omega; exact h5⟩
theorem asc_lt {l : List Int} {lo hi : Int} (h : isAsc l lo hi = true) {i : Nat} : ∀ {j : Nat}, i < j → j < l.length → iat l i < iat l j := by
 intro j
 induction j with
 | zero => intro h1; omega
 | succ j ih =>
  intro h1 h2
  have h3 := (asc_at h h2).2 (by omega)
  rw [Nat.add_sub_cancel] at h3
  rcases Nat.lt_or_ge i j with h4 | h4
  ·have := ih h4 (by omega); omega
  ·have : i = j := by omega
   subst this; exact h3
theorem asc_ge {l : List Int} {lo hi : Int} (h : isAsc l lo hi = true) : ∀ {i : Nat}, i < l.length → lo + i ≤ iat l i := by
 intro i
 induction i with
 | zero => intro h1; have := (asc_at h h1).1; omega
 | succ i ih =>
  intro h1
  have h2 := ih (by omega)
  have h3 := (asc_at h h1).2 (by omega)
  rw [Nat.add_sub_cancel] at h3
  omega
theorem asc_len {l : List Int} {w : Int} (h0 : 1 ≤ w) (h1 : w ≤ 120) (h : isAsc l 0 (w - 1) = true) : l.length ≤ 120 := by
 rcases Nat.lt_or_ge 120 l.length with h2 | h2
 ·have h3 := asc_ge h (i := 120) h2
  have h4 := (asc_at h (i := 120) h2).1
  omega
 ·exact h2
theorem within_of {x a b : Int} (h : a ≤ x ∧ x ≤ b) : within x a b = true := within_iff.2 h
structure ScrFine (s : ScrD) : Prop where
 gM : gridOk s.Main = true
 gA : gridOk s.Alt = true
 dim : s.Main.W = s.W ∧ s.Main.H = s.H ∧ s.Alt.W = s.W ∧ s.Alt.H = s.H
 pos : (0 ≤ s.X ∧ s.X < s.W) ∧ 0 ≤ s.Y ∧ s.Y < s.H
 sav : (0 ≤ s.SaveX ∧ s.SaveX < s.W) ∧ 0 ≤ s.SaveY ∧ s.SaveY < s.H
 wrp : s.Wrap = true → s.X = s.W - 1
 aA : attrOk s.A.Fg s.A.Bg = true
 aS : attrOk s.SaveA.Fg s.SaveA.Bg = true
 reg : (0 ≤ s.Top ∧ s.Top ≤ s.Bot) ∧ s.Bot < s.H ∧ (s.Top = s.Bot → s.H = 1)
 lim : (0 ≤ s.Limit ∧ s.Limit ≤ 100) ∧ (s.Back.length : Int) ≤ s.Limit
 tab : isAsc s.Tabs 0 (s.W - 1) = true
 row : s.Back.all rowOk = true
theorem ScrFine.of {s : ScrD} (h : scrOk s = true) : ScrFine s := by
 obtain ⟨h1, h2, h3, h4, h5, h6⟩ := scrOk_P h
 have hb := scrOk_bnd h
 have hm := scrOk_main h
 have ha := scrOk_attr h
 refine ⟨hm.1, hm.2, ⟨hb.1.2.2.1, hb.1.2.2.2.1, hb.1.2.2.2.2⟩, hb.2.1, hb.2.2.1, ?_, ha.1, ha.2, ⟨⟨hb.2.2.2.1.1, hb.2.2.2.1.2.1⟩, hb.2.2.2.1.2.2, ?_⟩, hb.2.2.2.2, h5, h6⟩
 ·intro hw
  unfold scrP2 at h2
  rw [hw] at h2
  simp only [Bool.and_eq_true, Bool.not_true, Bool.false_or, decide_eq_true_eq] at h2
  exact h2.2.1
 ·intro he
  unfold scrP3 at h3
  rw [he] at h3
  simp only [Bool.and_eq_true, decide_true, Bool.not_true, Bool.false_or, decide_eq_true_eq] at h3
  exact h3.2.2
theorem ScrFine.ok {s : ScrD} (h : ScrFine s) : scrOk s = true := by
 have b := gridOk_bnd h.gM
 obtain ⟨d1, d2, d3, d4⟩ := h.dim
 have hp := h.pos
 have hs := h.sav
 have hr := h.reg
 have hl := h.lim
 refine scrOk_all ?_ ?_ ?_ ?_ h.tab h.row
 ·unfold scrP1 gridFit
  simp [h.gM, h.gA, d1, d2, d3, d4]
 ·unfold scrP2 gridHas
  rw [within_of (by omega), within_of (by omega), within_of (by omega), within_of (by omega), h.aA, h.aS]
  have hw := h.wrp
  cases hq : s.Wrap
  ·rfl
  ·simp [hw hq]
 ·unfold scrP3
  simp only [Bool.and_eq_true, decide_eq_true_eq, Bool.or_eq_true, Bool.not_eq_true', decide_eq_false_iff_not]
  refine ⟨hr.1, hr.2.1, ?_⟩
  by_cases he : s.Top = s.Bot
  ·exact .inr (hr.2.2 he)
  ·exact .inl he
 ·unfold scrP4
  rw [within_of hl.1, Bool.true_and, decide_eq_true_eq]
  exact hl.2
theorem scr_tot {s : ScrD} (h : scrOk s = true) : totScr s ≤ 20220 := by
 have f := ScrFine.of h
 have m := gridOk_cells f.gM
 have a := gridOk_cells f.gA
 have b := back_bnd (scrOk_back h) f.lim.2 f.lim.1.2
 have t : s.Tabs.length ≤ 120 := by
  have hb := scrOk_bnd h
  exact asc_len (by omega) (by omega) f.tab
 show s.Main.Cells.length + s.Alt.Cells.length + s.Tabs.length + tots totRow s.Back ≤ 20220
 omega
theorem blank_ok : cellOk blankC = true := by decide
theorem grid_len {g : GridD} (hg : gridOk g = true) : (g.Cells.length : Int) = g.W * g.H := by
 unfold gridOk at hg; rw [Bool.and_eq_true, Bool.and_eq_true, decide_eq_true_eq] at hg; exact hg.1.2
theorem cat_ok {g : GridD} {k : Nat} (hg : gridOk g = true) (hk : k < g.Cells.length) : cellOk (cat g.Cells k) = true := by
 have h := (gridOk_cells hg).2
 unfold cellsOk at h
 rw [List.all_eq_true] at h
 exact h _ (gat_mem (F := encCell) hk)
theorem gmap_ok {g : GridD} {f : Nat → CellD} (hg : gridOk g = true) (h : ∀ k, k < g.Cells.length → cellOk (f k) = true) : gridOk (gmap g f) = true := by
 have hg' := hg
 unfold gridOk at hg' ⊢
 rw [Bool.and_eq_true, Bool.and_eq_true] at hg' ⊢
 refine ⟨⟨hg'.1.1, ?_⟩, ?_⟩
 ·rw [decide_eq_true_eq, gmap_len]; exact grid_len hg
 ·unfold cellsOk
  rw [List.all_eq_true]
  intro x hx
  obtain ⟨k, hk, rfl⟩ := List.mem_map.1 hx
  exact h k (List.mem_range.1 hk)
theorem idx_lt {g : GridD} {r : Int} {x : Nat} (hg : gridOk g = true) (h0 : 0 ≤ r) (h1 : r < g.H) (hx : x < g.W.toNat) : r.toNat * g.W.toNat + x < g.Cells.length := by
 have b := gridOk_bnd hg
 have l := grid_len hg
 have e : ((g.H.toNat * g.W.toNat : Nat) : Int) = g.W * g.H := by rw [Int.natCast_mul, Int.toNat_of_nonneg (by omega), Int.toNat_of_nonneg (by omega), Int.mul_comm]
 have m := Nat.mul_le_mul_right g.W.toNat (show r.toNat + 1 ≤ g.H.toNat by omega)
 rw [Nat.add_mul, Nat.one_mul] at m
 omega
theorem gRoll_ok {g : GridD} {top bot n : Int} (hg : gridOk g = true) (h0 : 0 ≤ top) (hb : bot < g.H) : gridOk (gRoll g top bot n) = true := by
 have b := gridOk_bnd hg
 refine gmap_ok hg (fun k hk => ?_)
 unfold rollF
 split
 ·split
  ·exact cat_ok hg (idx_lt hg (by omega) (by omega) (Nat.mod_lt _ (by omega)))
  ·exact blank_ok
 ·exact cat_ok hg hk
theorem gShift_ok {g : GridD} {x y n : Int} (hg : gridOk g = true) (h0 : 0 ≤ x) (hy : 0 ≤ y ∧ y < g.H) : gridOk (gShift g x y n) = true := by
 have b := gridOk_bnd hg
 refine gmap_ok hg (fun k hk => ?_)
 unfold shiftF
 split
 ·rename_i h
  split
  ·have := idx_lt (r := ((k / g.W.toNat : Nat) : Int)) (x := (((k % g.W.toNat : Nat) : Int) - n).toNat) hg (by omega) (by omega) (by omega)
   rw [Int.toNat_natCast] at this
   exact cat_ok hg this
  ·exact blank_ok
 ·exact cat_ok hg hk
theorem gFill_ok {g : GridD} {x y w h : Int} {c : CellD} (hg : gridOk g = true) (hc : cellOk c = true) : gridOk (gFill g x y w h c) = true := by
 refine gmap_ok hg (fun k hk => ?_)
 unfold fillFn
 split
 ·exact hc
 ·exact cat_ok hg hk
def shownD (s : ScrD) : GridD := if s.OnAlt = true then s.Alt else s.Main
def putD (s : ScrD) (g : GridD) : ScrD := if s.OnAlt = true then { s with Alt := g } else { s with Main := g }
def shownR (x : ScrR) : GridR := if x.OnAlt = true then x.Alt else x.Main
theorem shownR_dat {x : ScrR} : (shownR x).dat = shownD x.dat := by
 unfold shownR shownD
 by_cases h : x.OnAlt = true
 ·rw [if_pos h, if_pos (show x.dat.OnAlt = true from h)]; rfl
 ·rw [if_neg h, if_neg (show ¬ x.dat.OnAlt = true from h)]; rfl
theorem shownR_alt {x : ScrR} (h : x.OnAlt = true) : shownR x = x.Alt := if_pos h
theorem shownR_main {x : ScrR} (h : ¬ x.OnAlt = true) : shownR x = x.Main := if_neg h
theorem okScrR.shown {B : Nat} {w : World} {x : ScrR} (h : okScrR B w x) : okGridR B w (shownR x) := by
 unfold shownR; split
 ·exact h.Alt
 ·exact h.Main
theorem sepScrR.shown {T : List Nat} {x : ScrR} (h : sepScrR T x) : sepGridR T (shownR x) := by
 unfold shownR; split
 ·exact h.Alt
 ·exact h.Main
theorem shown_sm {B : Nat} {s : ScrD} (h : smScr B s) : smGrid B (shownD s) := by
 unfold shownD; split
 ·exact h.2.1
 ·exact h.1
theorem ScrFine.shown {s : ScrD} (h : ScrFine s) : gridOk (shownD s) = true ∧ (shownD s).W = s.W ∧ (shownD s).H = s.H := by
 unfold shownD
 split
 ·exact ⟨h.gA, h.dim.2.2⟩
 ·exact ⟨h.gM, h.dim.1, h.dim.2.1⟩
theorem ScrFine.put {s : ScrD} {g : GridD} (h : ScrFine s) (hg : gridOk g = true) (hd : g.W = s.W ∧ g.H = s.H) : ScrFine (putD s g) := by
 unfold putD
 split
 ·exact ⟨h.gM, hg, ⟨h.dim.1, h.dim.2.1, hd⟩, h.pos, h.sav, h.wrp, h.aA, h.aS, h.reg, h.lim, h.tab, h.row⟩
 ·exact ⟨hg, h.gA, ⟨hd.1, hd.2, h.dim.2.2⟩, h.pos, h.sav, h.wrp, h.aA, h.aS, h.reg, h.lim, h.tab, h.row⟩
def rollD (s : ScrD) (top bot n : Int) : ScrD := putD s (gRoll (shownD s) top bot n)
def keepD (s : ScrD) (n : Int) : ScrD := if s.OnAlt = false ∧ s.Top = 0 then keepRows s (min n (s.Bot + 1)).toNat else s
def rollUpD (s : ScrD) (n : Int) : ScrD := rollD (keepD s n) s.Top s.Bot n
def wrapD (s : ScrD) (b : Bool) : ScrD := { s with Wrap := b }
def downD (s : ScrD) : ScrD := wrapD (if s.Y = s.Bot then rollUpD s 1 else if s.Y < s.H - 1 then { s with Y := s.Y + 1 } else s) false
def upD (s : ScrD) : ScrD := wrapD (if s.Y = s.Top then rollD s s.Top s.Bot (-1) else if s.Y > 0 then { s with Y := s.Y - 1 } else s) false
def saveD (s : ScrD) : ScrD := { s with SaveX := s.X, SaveY := s.Y, SaveA := s.A }
def backD (s : ScrD) : ScrD := { s with X := s.SaveX, Y := s.SaveY, A := s.SaveA, Wrap := false }
def tabL (s : ScrD) : List Int := ((List.range s.W.toNat).map (fun i : Nat => (i : Int))).filter (fun x => decide (x = s.X) || s.Tabs.contains x)
def tabD (s : ScrD) : ScrD := { s with Tabs := tabL s }
def resetD (s : ScrD) : ScrD := { scrNew s.W s.H s.Limit with Back := s.Back }
theorem ScrFine.roll {s : ScrD} {top bot n : Int} (h : ScrFine s) (h0 : 0 ≤ top) (hb : bot < s.H) : ScrFine (rollD s top bot n) := by
 have hs := h.shown
 exact h.put (gRoll_ok hs.1 h0 (by rw [hs.2.2]; exact hb)) hs.2
theorem rowAt_ok {g : GridD} {i : Nat} (hg : gridOk g = true) (hi : (i : Int) < g.H) : rowOk (rowAt g i) = true := by
 have b := gridOk_bnd hg
 have l := grid_len hg
 have h2 := idx_lt (r := (i : Int)) (x := 0) hg (by omega) hi (by omega)
 have h3 := idx_lt (r := (i : Int)) (x := g.W.toNat - 1) hg (by omega) hi (by omega)
 rw [Int.toNat_natCast] at h2 h3
 have hl : (rowAt g i).Cells.length = g.W.toNat := by
  show ((g.Cells.drop _).take _).length = _
  rw [List.length_take, List.length_drop]; omega
 unfold rowOk
 rw [Bool.and_eq_true]
 refine ⟨within_of (by omega), ?_⟩
 have hc := (gridOk_cells hg).2
 unfold cellsOk at hc ⊢
 rw [List.all_eq_true] at hc ⊢
 exact fun x hx => hc x (List.mem_of_mem_drop (List.mem_of_mem_take hx))
theorem ScrFine.keepRows {s : ScrD} {n : Nat} (h : ScrFine s) (hn : (n : Int) ≤ s.H) : ScrFine (keepRows s n) := by
 refine ⟨h.gM, h.gA, h.dim, h.pos, h.sav, h.wrp, h.aA, h.aS, h.reg, ⟨h.lim.1, ?_⟩, h.tab, ?_⟩
 ·show ((lastN _ _).length : Int) ≤ s.Limit
  rw [lastN_len]; have := h.lim.1; omega
 ·show (lastN _ _).all rowOk = true
  rw [List.all_eq_true]
  intro x hx
  rcases List.mem_append.1 (List.mem_of_mem_drop hx) with hx | hx
  ·exact List.all_eq_true.1 h.row x hx
  ·obtain ⟨i, hi, rfl⟩ := List.mem_map.1 hx
   exact rowAt_ok h.gM (by rw [h.dim.2.1]; have := List.mem_range.1 hi; omega)
theorem ScrFine.keep {s : ScrD} {n : Int} (h : ScrFine s) : ScrFine (keepD s n) := by
 unfold keepD
 split
 ·exact h.keepRows (by have := h.reg; omega)
 ·exact h
theorem keepD_eqs {s : ScrD} {n : Int} : (keepD s n).H = s.H ∧ (keepD s n).Top = s.Top ∧ (keepD s n).Bot = s.Bot ∧ (keepD s n).W = s.W ∧ (keepD s n).OnAlt = s.OnAlt ∧ (keepD s n).Main = s.Main ∧ (keepD s n).Alt = s.Alt := by
 unfold keepD; split <;> exact ⟨rfl, rfl, rfl, rfl, rfl, rfl, rfl⟩
theorem ScrFine.rollUp {s : ScrD} {n : Int} (h : ScrFine s) : ScrFine (rollUpD s n) := by
 have := h.reg
 exact h.keep.roll (by omega) (by rw [keepD_eqs.1]; omega)
theorem ScrFine.wrap0 {s : ScrD} (h : ScrFine s) : ScrFine (wrapD s false) :=
 ⟨h.gM, h.gA, h.dim, h.pos, h.sav, fun h9 => Bool.noConfusion h9, h.aA, h.aS, h.reg, h.lim, h.tab, h.row⟩
theorem ScrFine.y {s : ScrD} {y : Int} (h : ScrFine s) (hy : 0 ≤ y ∧ y < s.H) : ScrFine { s with Y := y } :=
 ⟨h.gM, h.gA, h.dim, ⟨h.pos.1, hy⟩, h.sav, h.wrp, h.aA, h.aS, h.reg, h.lim, h.tab, h.row⟩
theorem ScrFine.down {s : ScrD} (h : ScrFine s) : ScrFine (downD s) := by
 have hp := h.pos
 refine ScrFine.wrap0 ?_
 split
 ·exact h.rollUp
 ·split
  ·exact h.y (by omega)
  ·exact h
theorem ScrFine.up {s : ScrD} (h : ScrFine s) : ScrFine (upD s) := by
 have hp := h.pos
 have hr := h.reg
 refine ScrFine.wrap0 ?_
 split
 ·exact h.roll (by omega) (by omega)
 ·split
  ·exact h.y (by omega)
  ·exact h
theorem ScrFine.save {s : ScrD} (h : ScrFine s) : ScrFine (saveD s) :=
 ⟨h.gM, h.gA, h.dim, h.pos, h.pos, h.wrp, h.aA, h.aA, h.reg, h.lim, h.tab, h.row⟩
theorem ScrFine.back {s : ScrD} (h : ScrFine s) : ScrFine (backD s) :=
 ⟨h.gM, h.gA, h.dim, h.sav, h.sav, fun h9 => Bool.noConfusion h9, h.aS, h.aS, h.reg, h.lim, h.tab, h.row⟩
theorem roll_row {g : GridD} {top bot n : Int} {a k lo m : Nat} {xs ys : List CellD} (h0 : 0 ≤ top) (hlo : lo = (top.toNat + a) * g.W.toNat) (hm : m = g.W.toNat) (hy : m ≤ ys.length) (hx : lo + m ≤ xs.length) (hk : k < xs.length) (hb : top + a ≤ bot)
  (hv : ∀ j, j < g.W.toNat → cat ys j = if top ≤ top + a + n ∧ top + a + n ≤ bot then cat g.Cells ((top + a + n).toNat * g.W.toNat + j) else blankC) (hq : cat xs k = partF g (rollF g top bot n) (top.toNat * g.W.toNat) (a * g.W.toNat) k) :
  cat (xs.take lo ++ ys.take m ++ xs.drop (lo + m)) k = partF g (rollF g top bot n) (top.toNat * g.W.toNat) ((a + 1) * g.W.toNat) k := by
 rw [gat_splice2 hy hx hk, Nat.add_mul a 1, Nat.one_mul, partF_add, ← Nat.add_mul, ← hlo, hm]
 split
 ·rename_i hr
  rw [hv _ (by omega)]
  have e : k = (top.toNat + a) * g.W.toNat + (k - lo) := by omega
  have e2 : rollF g top bot n k = rollF g top bot n ((top.toNat + a) * g.W.toNat + (k - lo)) := congrArg _ e
  rw [e2, rollF_row (by omega) (by omega) (by omega), show ((top.toNat + a : Nat) : Int) = top + a by omega]
 ·exact hq
theorem roll_src {g : GridD} {y : Int} {j lo m : Nat} (hy : 0 ≤ y) (hw : 0 ≤ g.W) (hlo : lo = (y * g.W).toNat) (hm : m = g.W.toNat) (hj : j < g.W.toNat) : cat ((g.Cells.drop lo).take m) j = cat g.Cells (y.toNat * g.W.toNat + j) := by
 show gat encCell _ _ = _
 rw [gat_cut (by omega), hlo, Int.toNat_mul hy hw]
theorem cat_rep {n j : Nat} {x : CellD} (h : j < n) : cat (List.replicate n x) j = x := by
 show gat encCell _ _ = _
 rw [gat_lt (by rw [List.length_replicate]; exact h), List.getElem_replicate]
def sgrOne (a : AttrD) (n : Int) : AttrD :=
 if n = 0 then ⟨0, 0, false, false, false⟩
 else if n = 1 ∨ n = 22 then { a with Bold := decide (n = 1) }
 else if n = 4 ∨ n = 24 then { a with Under := decide (n = 4) }
 else if n = 7 ∨ n = 27 then { a with Turn := decide (n = 7) }
 else if 30 ≤ n ∧ n ≤ 37 then { a with Fg := n - 29 }
 else if n = 39 then { a with Fg := 0 }
 else if 40 ≤ n ∧ n ≤ 47 then { a with Bg := n - 39 }
 else if n = 49 then { a with Bg := 0 } else a
def sgrAll (a : AttrD) (l : List Int) : AttrD := l.foldl sgrOne a
theorem sgrAll_take {a : AttrD} {l : List Int} {i : Nat} (h : i < l.length) : sgrAll a (l.take (i + 1)) = sgrOne (sgrAll a (l.take i)) (iat l i) := by
 unfold sgrAll
 rw [List.take_add_one, gat_get (F := encI) h, List.foldl_append]
 rfl
def sgrRes (a : AttrD) (l : List Int) : AttrD := if attrOk a.Fg a.Bg = true ∧ 0 < l.length then sgrAll a l else ⟨0, 0, false, false, false⟩
theorem attrOk_iff {a b : Int} : attrOk a b = true ↔ (0 ≤ a ∧ a ≤ 8) ∧ 0 ≤ b ∧ b ≤ 8 := by
 unfold attrOk; rw [Bool.and_eq_true, within_iff, within_iff]
theorem sgrOne_ok {a : AttrD} {n : Int} (h : attrOk a.Fg a.Bg = true) : attrOk (sgrOne a n).Fg (sgrOne a n).Bg = true := by
 rw [attrOk_iff] at h ⊢
 unfold sgrOne
 repeat' split
 all_goals (first | omega | (simp only; omega))
theorem sgrAll_ok {l : List Int} : ∀ {a : AttrD}, attrOk a.Fg a.Bg = true → attrOk (sgrAll a l).Fg (sgrAll a l).Bg = true := by
 induction l with
 | nil => exact fun h => h
 | cons x r ih => exact fun h => ih (sgrOne_ok h)
theorem sgrRes_ok {a : AttrD} {l : List Int} : attrOk (sgrRes a l).Fg (sgrRes a l).Bg = true := by
 unfold sgrRes
 split
 ·rename_i h; exact sgrAll_ok h.1
 ·decide
def argI (l : List Int) (k : Nat) (d : Int) : Int := if k < l.length ∧ iat l k ≠ 0 then iat l k else d
theorem argI_bnd {l : List Int} {k : Nat} {d : Int} (h : areArgs l = true) (hd : 0 ≤ d ∧ d ≤ 9999) : 0 ≤ argI l k d ∧ argI l k d ≤ 9999 := by
 unfold argI
 split
 ·rename_i h1
  exact (areArgs_iff.1 h).2 _ (gat_mem (F := encI) h1.1)
 ·exact hd
theorem argI_pos {l : List Int} {k : Nat} {d : Int} (h : areArgs l = true) (hd : 1 ≤ d ∧ d ≤ 9999) : 1 ≤ argI l k d ∧ argI l k d ≤ 9999 := by
 have h0 := argI_bnd (k := k) h (d := d) (by omega)
 unfold argI at h0 ⊢
 split at h0
 ·rename_i h1; rw [if_pos h1]; have := h1.2; omega
 ·rename_i h1; rw [if_neg h1]; exact hd
def clampI (x hi : Int) : Int := max 0 (min x hi)
theorem clampI_bnd {x w : Int} (h : 1 ≤ w) : 0 ≤ clampI x (w - 1) ∧ clampI x (w - 1) < w := by unfold clampI; omega
def moveD (s : ScrD) (x y : Int) : ScrD := { s with X := clampI x (s.W - 1), Y := clampI y (s.H - 1), Wrap := false }
def clearF (g : GridD) (a b : Int) (k : Nat) : CellD := if a ≤ (k : Int) ∧ (k : Int) < b then blankC else cat g.Cells k
def clearD (s : ScrD) (a b : Int) : ScrD := putD s (gmap (shownD s) (clearF (shownD s) a b))
def eraseD (s : ScrD) (a b k : Int) : ScrD :=
 if k = 0 then clearD s (s.Y * s.W + s.X) b else if k = 1 then clearD s a (s.Y * s.W + s.X + 1) else if k = 2 then clearD s a b else s
def regionD (s : ScrD) (l : List Int) : ScrD :=
 if argI l 0 1 - 1 < argI l 1 s.H - 1 ∧ argI l 1 s.H - 1 < s.H then moveD { s with Top := argI l 0 1 - 1, Bot := argI l 1 s.H - 1 } 0 0 else s
def tabsD (s : ScrD) (k : Int) : ScrD := { s with Tabs := s.Tabs.filter fun x => (decide (k = 0) && !decide (x = s.X)) || (!decide (k = 0) && !decide (k = 3)) }
def linesD (s : ScrD) (n : Int) : ScrD := if within s.Y s.Top s.Bot = true then { rollD s s.Y s.Bot n with X := 0, Wrap := false } else s
def modeD (s : ScrD) (n : Int) (on : Bool) : ScrD :=
 if n = 7 then { s with NoWrap := !on, Wrap := s.Wrap && on }
 else if n = 25 then { s with Hide := !on }
 else if (n = 1049 ∧ on = true) ∧ s.OnAlt = false then { saveD s with Alt := gridNew s.W s.H, OnAlt := true }
 else if (n = 1049 ∧ on = false) ∧ s.OnAlt = true then backD { s with OnAlt := false } else s
def csiD (s : ScrD) (l : List Int) (b : Int) : ScrD :=
 if b = 65 then moveD s s.X (s.Y - argI l 0 1)
 else if b = 66 then moveD s s.X (s.Y + argI l 0 1)
 else if b = 67 then moveD s (s.X + argI l 0 1) s.Y
 else if b = 68 then moveD s (s.X - argI l 0 1) s.Y
 else if b = 71 then moveD s (argI l 0 1 - 1) s.Y
 else if b = 100 then moveD s s.X (argI l 0 1 - 1)
 else if b = 72 ∨ b = 102 then moveD s (argI l 1 1 - 1) (argI l 0 1 - 1)
 else if b = 74 then eraseD s 0 (s.W * s.H) (argI l 0 0)
 else if b = 75 then eraseD s (s.Y * s.W) ((s.Y + 1) * s.W) (argI l 0 0)
 else if b = 88 then clearD s (s.Y * s.W + s.X) (min (s.Y * s.W + s.X + argI l 0 1) ((s.Y + 1) * s.W))
 else if b = 64 then putD s (gShift (shownD s) s.X s.Y (argI l 0 1))
 else if b = 80 then putD s (gShift (shownD s) s.X s.Y (-argI l 0 1))
 else if b = 76 then linesD s (-argI l 0 1)
 else if b = 77 then linesD s (argI l 0 1)
 else if b = 83 then rollUpD s (argI l 0 1)
 else if b = 84 then rollD s s.Top s.Bot (-argI l 0 1)
 else if b = 109 then { s with A := sgrRes s.A l }
 else if b = 114 then regionD s l
 else if b = 103 then tabsD s (argI l 0 0)
 else s
def seqD (s : ScrD) (mark : Bool) (l : List Int) (b : Int) : ScrD :=
 if mark = false then csiD s l b else if b = 104 ∨ b = 108 then l.foldl (fun s n => modeD s n (decide (b = 104))) s else s
def csiOk (s : ScrD) (l : List Int) : Bool := areArgs l && scrOk s
def scrCsiRes (s : ScrD) (mark : Bool) (l : List Int) (b : Int) : ScrD := if csiOk s l = true then seqD s mark l b else scr0
theorem ScrFine.move {s : ScrD} {x y : Int} (h : ScrFine s) : ScrFine (moveD s x y) := by
 have hp := h.pos
 exact ⟨h.gM, h.gA, h.dim, ⟨clampI_bnd (by omega), clampI_bnd (by omega)⟩, h.sav, fun h9 => Bool.noConfusion h9, h.aA, h.aS, h.reg, h.lim, h.tab, h.row⟩
theorem ScrFine.clear {s : ScrD} {a b : Int} (h : ScrFine s) : ScrFine (clearD s a b) := by
 have hs := h.shown
 refine h.put (gmap_ok hs.1 (fun k hk => ?_)) hs.2
 unfold clearF
 split
 ·exact blank_ok
 ·exact cat_ok hs.1 hk
theorem ScrFine.erase {s : ScrD} {a b k : Int} (h : ScrFine s) : ScrFine (eraseD s a b k) := by
 unfold eraseD
 repeat' split
 all_goals first | exact h.clear | exact h
theorem ScrFine.region {s : ScrD} {l : List Int} (h : ScrFine s) (hl : areArgs l = true) : ScrFine (regionD s l) := by
 have b := gridOk_bnd h.gM
 obtain ⟨d1, d2, _⟩ := h.dim
 unfold regionD
 split
 ·rename_i hr
  have h1 := argI_pos (k := 0) hl (d := 1) (by omega)
  have h' : ScrFine { s with Top := argI l 0 1 - 1, Bot := argI l 1 s.H - 1 } := ⟨h.gM, h.gA, h.dim, h.pos, h.sav, h.wrp, h.aA, h.aS, ⟨by constructor <;> (simp only; omega), hr.2, fun he => by simp only at he; omega⟩, h.lim, h.tab, h.row⟩
  exact h'.move
 ·exact h
theorem ScrFine.wx {s : ScrD} (h : ScrFine s) : ScrFine { s with X := 0, Wrap := false } := by
 have hp := h.pos
 exact ⟨h.gM, h.gA, h.dim, ⟨by constructor <;> (simp only; omega), hp.2⟩, h.sav, fun h9 => Bool.noConfusion h9, h.aA, h.aS, h.reg, h.lim, h.tab, h.row⟩
theorem ScrFine.lines {s : ScrD} {n : Int} (h : ScrFine s) : ScrFine (linesD s n) := by
 unfold linesD
 split
 ·rename_i hw
  rw [within_iff] at hw
  have hr := h.reg
  exact (h.roll (by omega) (by omega)).wx
 ·exact h
theorem asc_pair {l : List Int} {lo hi : Int} : isAsc l lo hi = true ↔ l.Pairwise (· < ·) ∧ ∀ x, x ∈ l → lo ≤ x ∧ x ≤ hi := by
 constructor
 ·intro h
  constructor
  ·rw [List.pairwise_iff_getElem]
   intro i j hi' hj hij
   have := asc_lt h hij hj
   rwa [show iat l i = l[i] from gat_lt hi', show iat l j = l[j] from gat_lt hj] at this
  ·intro x hx
   obtain ⟨i, hi', rfl⟩ := List.mem_iff_getElem.1 hx
   have := (asc_at h hi').1
   rwa [show iat l i = l[i] from gat_lt hi'] at this
 ·rintro ⟨h1, h2⟩
  refine isAsc_all fun i hi' => ?_
  unfold ascAt
  rw [Bool.and_eq_true, within_iff, Bool.or_eq_true, decide_eq_true_eq, decide_eq_true_eq, show iat l i = l[i] from gat_lt hi']
  refine ⟨h2 _ (List.getElem_mem hi'), ?_⟩
  rcases Nat.eq_zero_or_pos i with h3 | h3
  ·exact .inl h3
  ·right
   rw [show iat l (i - 1) = l[i - 1] from gat_lt (by omega)]
   exact List.pairwise_iff_getElem.1 h1 (i - 1) i (by omega) hi' (by omega)
theorem asc_sub {l m : List Int} {lo hi : Int} (h : isAsc l lo hi = true) (hm : m.Sublist l) : isAsc m lo hi = true := by
 rw [asc_pair] at h ⊢
 exact ⟨h.1.sublist hm, fun x hx => h.2 x (hm.subset hx)⟩
theorem ScrFine.tabs {s : ScrD} {l : List Int} (h : ScrFine s) (hl : isAsc l 0 (s.W - 1) = true) : ScrFine { s with Tabs := l } :=
 ⟨h.gM, h.gA, h.dim, h.pos, h.sav, h.wrp, h.aA, h.aS, h.reg, h.lim, hl, h.row⟩
theorem ScrFine.sgr {s : ScrD} {l : List Int} (h : ScrFine s) : ScrFine { s with A := sgrRes s.A l } :=
 ⟨h.gM, h.gA, h.dim, h.pos, h.sav, h.wrp, sgrRes_ok, h.aS, h.reg, h.lim, h.tab, h.row⟩
theorem ScrFine.shift {s : ScrD} {n : Int} (h : ScrFine s) : ScrFine (putD s (gShift (shownD s) s.X s.Y n)) := by
 have hs := h.shown
 have hp := h.pos
 exact h.put (gShift_ok hs.1 hp.1.1 (by rw [hs.2.2]; exact hp.2)) hs.2
theorem fine_ite {p : Prop} [Decidable p] {a b : ScrD} (ha : ScrFine a) (hb : ScrFine b) : ScrFine (if p then a else b) := by
 by_cases h : p
 ·rw [if_pos h]; exact ha
 ·rw [if_neg h]; exact hb
theorem ScrFine.csi {s : ScrD} {l : List Int} {b : Int} (h : ScrFine s) (hl : areArgs l = true) : ScrFine (csiD s l b) := by
 have hr := h.reg
 unfold csiD
 repeat' (with_reducible refine fine_ite ?_ ?_)
 all_goals first | exact h.move | exact h.erase | exact h.clear | exact h.shift | exact h.lines | exact h.rollUp | exact h.roll (by omega) (by omega) | exact h.sgr | exact h.region hl | exact h.tabs (asc_sub h.tab List.filter_sublist) | exact h
theorem isSize_of {g : GridD} (hg : gridOk g = true) : isSize g.W g.H = true := by
 unfold gridOk at hg; rw [Bool.and_eq_true, Bool.and_eq_true] at hg; exact hg.1.1
theorem ScrFine.size {s : ScrD} (h : ScrFine s) : isSize s.W s.H = true := by
 have := isSize_of h.gM
 rwa [h.dim.1, h.dim.2.1] at this
theorem ScrFine.mode {s : ScrD} {n : Int} {on : Bool} (h : ScrFine s) : ScrFine (modeD s n on) := by
 unfold modeD
 split
 ·exact ⟨h.gM, h.gA, h.dim, h.pos, h.sav, fun h9 => h.wrp (by simp only [Bool.and_eq_true] at h9; exact h9.1), h.aA, h.aS, h.reg, h.lim, h.tab, h.row⟩
 ·split
  ·exact ⟨h.gM, h.gA, h.dim, h.pos, h.sav, h.wrp, h.aA, h.aS, h.reg, h.lim, h.tab, h.row⟩
  ·split
   ·exact ⟨h.gM, gridOk_new h.size, ⟨h.dim.1, h.dim.2.1, rfl, rfl⟩, h.pos, h.pos, h.wrp, h.aA, h.aA, h.reg, h.lim, h.tab, h.row⟩
   ·split
    ·exact ⟨h.gM, h.gA, h.dim, h.sav, h.sav, fun h9 => Bool.noConfusion h9, h.aS, h.aS, h.reg, h.lim, h.tab, h.row⟩
    ·exact h
def modesD (s : ScrD) (l : List Int) (on : Bool) : ScrD := l.foldl (fun s n => modeD s n on) s
theorem modesD_take {s : ScrD} {l : List Int} {i : Nat} {on : Bool} (h : i < l.length) : modesD s (l.take (i + 1)) on = modeD (modesD s (l.take i) on) (iat l i) on := by
 unfold modesD
 rw [List.take_add_one, gat_get (F := encI) h, List.foldl_append]
 rfl
theorem ScrFine.modes {l : List Int} {on : Bool} : ∀ {s : ScrD}, ScrFine s → ScrFine (modesD s l on) := by
 induction l with
 | nil => exact fun h => h
 | cons x r ih => exact fun h => ih h.mode
theorem ScrFine.seq {s : ScrD} {mark : Bool} {l : List Int} {b : Int} (h : ScrFine s) (hl : areArgs l = true) : ScrFine (seqD s mark l b) := by
 unfold seqD
 split
 ·exact h.csi hl
 ·split
  ·exact ScrFine.modes h
  ·exact h
theorem mem_tabL {s : ScrD} (h : ScrFine s) {y : Int} : y ∈ tabL s ↔ y = s.X ∨ y ∈ s.Tabs := by
 have hp := h.pos
 unfold tabL
 rw [List.mem_filter, List.mem_map]
 simp only [Bool.or_eq_true, decide_eq_true_eq, List.contains_iff_mem]
 constructor
 ·exact fun h1 => h1.2
 ·intro h1
  refine ⟨?_, h1⟩
  have : 0 ≤ y ∧ y < s.W := by
   rcases h1 with h1 | h1
   ·omega
   ·have := (asc_pair.1 h.tab).2 y h1; omega
  exact ⟨y.toNat, List.mem_range.2 (by omega), by omega⟩
theorem pair_tabL {s : ScrD} : (tabL s).Pairwise (· < ·) := by
 unfold tabL
 refine List.Pairwise.sublist List.filter_sublist ?_
 rw [List.pairwise_map]
 exact List.Pairwise.imp (fun h => by omega) List.pairwise_lt_range
theorem ScrFine.tabD {s : ScrD} (h : ScrFine s) : ScrFine (tabD s) := by
 have hp := h.pos
 refine h.tabs (asc_pair.2 ⟨pair_tabL, fun y hy => ?_⟩)
 rcases (mem_tabL h).1 hy with h1 | h1
 ·omega
 ·exact (asc_pair.1 h.tab).2 y h1
theorem tabsL_asc {w : Int} (h : 1 ≤ w) : isAsc (tabsL w) 0 (w - 1) = true := by
 rw [asc_pair]
 constructor
 ·unfold tabsL
  rw [List.pairwise_map]
  exact List.Pairwise.imp (fun h => by omega) List.pairwise_lt_range
 ·intro x hx
  obtain ⟨i, hi, rfl⟩ := List.mem_map.1 hx
  have := List.mem_range.1 hi
  omega
theorem ScrFine.fresh {w h l : Int} (hs : isSize w h = true) (hl : 0 ≤ l ∧ l ≤ 100) : ScrFine (scrNew w h l) := by
 obtain ⟨h1, h2, _⟩ := isSize_bnd hs
 refine ⟨gridOk_new hs, gridOk_new hs, ⟨rfl, rfl, rfl, rfl⟩, ?_, ?_, fun h9 => Bool.noConfusion h9, (show attrOk 0 0 = true by decide), (show attrOk 0 0 = true by decide), ?_, ⟨hl, ?_⟩, tabsL_asc h1.1, rfl⟩
 ·show (0 ≤ (0 : Int) ∧ (0 : Int) < w) ∧ 0 ≤ (0 : Int) ∧ (0 : Int) < h; omega
 ·show (0 ≤ (0 : Int) ∧ (0 : Int) < w) ∧ 0 ≤ (0 : Int) ∧ (0 : Int) < h; omega
 ·show (0 ≤ (0 : Int) ∧ (0 : Int) ≤ h - 1) ∧ h - 1 < h ∧ ((0 : Int) = h - 1 → h = 1); omega
 ·exact hl.1
theorem ScrFine.reset {s : ScrD} (h : ScrFine s) : ScrFine (resetD s) := by
 have f := ScrFine.fresh h.size h.lim.1
 exact ⟨f.gM, f.gA, f.dim, f.pos, f.sav, f.wrp, f.aA, f.aS, f.reg, h.lim, f.tab, h.row⟩
def escD (s : ScrD) (b : Int) : ScrD :=
 if b = 68 then downD s else if b = 77 then upD s else if b = 69 then { downD s with X := 0 } else if b = 55 then saveD s else if b = 56 then backD s else if b = 72 then tabD s else if b = 99 then resetD s else s
theorem ScrFine.x0 {s : ScrD} (h : ScrFine s) (hw : s.Wrap = false) : ScrFine { s with X := 0 } := by
 have hp := h.pos
 exact ⟨h.gM, h.gA, h.dim, ⟨by constructor <;> (simp only; omega), hp.2⟩, h.sav, fun h9 => (by rw [show s.Wrap = true from h9] at hw; cases hw), h.aA, h.aS, h.reg, h.lim, h.tab, h.row⟩
theorem ScrFine.esc {s : ScrD} {b : Int} (h : ScrFine s) : ScrFine (escD s b) := by
 unfold escD
 repeat' (with_reducible refine fine_ite ?_ ?_)
 all_goals first | exact h.down | exact h.up | exact h.down.x0 rfl | exact h.save | exact h.back | exact h.tabD | exact h.reset | exact h
def runeD (s : ScrD) (r : Int) : ScrD :=
 let s1 := if s.Wrap = true then { downD s with X := 0 } else s
 let s2 := putD s1 (gFill (shownD s1) s1.X s1.Y 1 1 ⟨r, s1.A⟩)
 if s1.X = s1.W - 1 then wrapD s2 (!s1.NoWrap) else { s2 with X := s1.X + 1 }
def nextTab (s : ScrD) : Int := if 0 ≤ findI (fun n => decide (s.X < n)) s.Tabs then iat s.Tabs (findI (fun n => decide (s.X < n)) s.Tabs).toNat else s.W - 1
def ctlD (s : ScrD) (b : Int) : ScrD :=
 if b = 8 then moveD s (s.X - 1) s.Y else if b = 9 then moveD s (nextTab s) s.Y else if b = 10 ∨ b = 11 ∨ b = 12 then downD s else if b = 13 then moveD s 0 s.Y else s
def scrRuneRes (s : ScrD) (r : Int) : ScrD := if scrOk s = true then (if shows r = true then runeD s r else s) else scr0
def scrCtlRes (s : ScrD) (b : Int) : ScrD := if scrOk s = true then ctlD s b else scr0
def scrGoRes (s : ScrD) (x y : Int) : ScrD := if scrOk s = true then moveD s x y else scr0
theorem putD_eqs {s : ScrD} {g : GridD} : (putD s g).X = s.X ∧ (putD s g).W = s.W ∧ (putD s g).NoWrap = s.NoWrap ∧ (putD s g).Y = s.Y ∧ (putD s g).OnAlt = s.OnAlt ∧ (putD s g).Wrap = s.Wrap := by
 unfold putD; split <;> exact ⟨rfl, rfl, rfl, rfl, rfl, rfl⟩
theorem ScrFine.rune {s : ScrD} {r : Int} (h : ScrFine s) (hr : shows r = true) : ScrFine (runeD s r) := by
 have h1 : ScrFine (if s.Wrap = true then { downD s with X := 0 } else s) := by
  split
  ·exact h.down.x0 rfl
  ·exact h
 unfold runeD
 generalize (if s.Wrap = true then { downD s with X := 0 } else s) = s1 at h1
 have hp := h1.pos
 have hs := h1.shown
 have h2 : ScrFine (putD s1 (gFill (shownD s1) s1.X s1.Y 1 1 ⟨r, s1.A⟩)) := h1.put (gFill_ok hs.1 (by unfold cellOk; rw [hr, h1.aA]; rfl)) hs.2
 obtain ⟨e1, e2, _, _, _, _⟩ := putD_eqs (s := s1) (g := gFill (shownD s1) s1.X s1.Y 1 1 ⟨r, s1.A⟩)
 show ScrFine (if s1.X = s1.W - 1 then _ else _)
 split
 ·rename_i hx
  exact ⟨h2.gM, h2.gA, h2.dim, h2.pos, h2.sav, fun _ => by show (putD _ _).X = (putD _ _).W - 1; rw [e1, e2]; exact hx, h2.aA, h2.aS, h2.reg, h2.lim, h2.tab, h2.row⟩
 ·rename_i hx
  refine ⟨h2.gM, h2.gA, h2.dim, ⟨?_, h2.pos.2⟩, h2.sav, ?_, h2.aA, h2.aS, h2.reg, h2.lim, h2.tab, h2.row⟩
  ·show 0 ≤ s1.X + 1 ∧ s1.X + 1 < (putD _ _).W
   rw [e2]; omega
  ·intro hw
   have h3 := h2.wrp hw
   rw [e1, e2] at h3
   exact absurd h3 hx
theorem ScrFine.ctl {s : ScrD} {b : Int} (h : ScrFine s) : ScrFine (ctlD s b) := by
 unfold ctlD
 repeat' (with_reducible refine fine_ite ?_ ?_)
 all_goals first | exact h.move | exact h.down | exact h
theorem put_wrap {s : ScrD} {g : GridD} {b : Bool} : putD (wrapD s b) g = wrapD (putD s g) b := by
 unfold putD wrapD; split <;> rfl
theorem shown_wrap {s : ScrD} {b : Bool} : shownD (wrapD s b) = shownD s := rfl
theorem keep_wrap {s : ScrD} {n : Int} {b : Bool} : keepD (wrapD s b) n = wrapD (keepD s n) b := by
 by_cases h : s.OnAlt = false ∧ s.Top = 0
 ·unfold keepD; rw [if_pos h, if_pos (show (wrapD s b).OnAlt = false ∧ (wrapD s b).Top = 0 from h)]; rfl
 ·unfold keepD; rw [if_neg h, if_neg (show ¬ ((wrapD s b).OnAlt = false ∧ (wrapD s b).Top = 0) from h)]
theorem rollUp_wrap {s : ScrD} {n : Int} {b : Bool} : rollUpD (wrapD s b) n = wrapD (rollUpD s n) b := by
 unfold rollUpD rollD
 rw [keep_wrap, put_wrap, shown_wrap]; rfl
def scrDownRes (s : ScrD) : ScrD := if scrOk s = true then downD s else scr0
theorem part_next {g : GridD} {f : Nat → CellD} {lo a j k : Nat} {xs : List CellD} {v : CellD} (hj : j = lo + a) (hl : j < xs.length) (hv : v = f (lo + a)) (hq : cat xs k = partF g f lo a k) : cat (xs.set j v) k = partF g f lo (a + 1) k := by
 subst hj
 rw [partF_one]
 show gat encCell (xs.set (lo + a) v) k = _
 rw [gat_set2 hl]
 split
 ·rename_i hk; subst hk; exact hv
 ·exact hq
theorem part_skip {g : GridD} {f : Nat → CellD} {a k : Nat} {xs : List CellD} (hf : f a = cat g.Cells a) (hq : cat xs k = partF g f 0 a k) : cat xs k = partF g f 0 (a + 1) k := by
 rw [partF_one, hq]
 split
 ·rename_i hk
  rw [Nat.zero_add] at hk
  subst hk
  unfold partF
  rw [if_neg (by omega)]; exact hf.symm
 ·rfl
theorem part_done {g : GridD} {f : Nat → CellD} {lo a : Nat} {w h : Int} {xs : List CellD} (hw : w = g.W) (hh : h = g.H) (hl : xs.length = g.Cells.length) (ho : ∀ k, k < g.Cells.length → ¬ (lo ≤ k ∧ k < lo + a) → f k = cat g.Cells k)
  (hp : ∀ k, k < g.Cells.length → cat xs k = partF g f lo a k) : (⟨w, h, xs⟩ : GridD) = gmap g f := by
 subst hw hh
 unfold gmap
 congr 1
 refine ext_gat (F := encCell) hl fun k hk => ?_
 have h1 := hp k hk
 unfold partF at h1
 by_cases h2 : lo ≤ k ∧ k < lo + a
 ·rw [if_pos h2] at h1; exact h1
 ·rw [if_neg h2] at h1; rw [ho k hk h2]; exact h1
theorem dm_eq {w k : Nat} : k = k / w * w + k % w := by
 have := Nat.div_add_mod k w
 rw [Nat.mul_comm] at this
 exact this.symm
theorem shiftF_at {g : GridD} {x y n : Int} {a : Nat} (h0 : 0 ≤ x) (h1 : 0 ≤ y) (h2 : x + a < g.W) : shiftF g x y n (y.toNat * g.W.toNat + x.toNat + a) = if x ≤ x + a - n ∧ x + a - n < g.W then cat g.Cells (y.toNat * g.W.toNat + (x + a - n).toNat) else blankC := by
 obtain ⟨e1, e2⟩ := at_div (w := g.W.toNat) (y := y.toNat) (x := x.toNat + a) (by omega)
 unfold shiftF
 rw [Nat.add_assoc, e1, e2, if_pos ⟨by omega, by omega⟩, show ((x.toNat + a : Nat) : Int) = x + a by omega]
theorem shiftF_out {g : GridD} {x y n : Int} {k : Nat} (hw : 0 < g.W.toNat) (h0 : 0 ≤ x) (h1 : 0 ≤ y) (hx : x < g.W) (h : ¬ (y.toNat * g.W.toNat + x.toNat ≤ k ∧ k < y.toNat * g.W.toNat + x.toNat + (g.W - x).toNat)) : shiftF g x y n k = cat g.Cells k := by
 unfold shiftF
 rw [if_neg]
 rintro ⟨h2, h3⟩
 apply h
 have h4 := dm_eq (w := g.W.toNat) (k := k)
 have h5 := Nat.mod_lt k hw
 have h6 : k / g.W.toNat = y.toNat := by omega
 rw [h6] at h4
 omega
theorem shift_big {g : GridD} {x y n m : Int} (h0 : 0 ≤ x) (hn : n = m ∨ (g.W ≤ n ∧ g.W ≤ m ∨ n ≤ -g.W ∧ m ≤ -g.W)) : gShift g x y n = gShift g x y m := by
 rcases hn with rfl | hn
 ·rfl
 ·unfold gShift
  congr 1
  funext k
  unfold shiftF
  split
  ·rename_i h
   have h5 : ((k % g.W.toNat : Nat) : Int) < g.W ∨ g.W ≤ 0 := by
    rcases Nat.eq_zero_or_pos g.W.toNat with h6 | h6
    ·omega
    ·have := Nat.mod_lt k h6; omega
   rw [if_neg (by omega), if_neg (by omega)]
  ·rfl
theorem shift_done {g : GridD} {x y n m w h : Int} {a : Nat} {xs : List CellD} (h0 : 0 ≤ x ∧ x < g.W) (h1 : 0 ≤ y) (ha : (a : Int) = g.W - x) (hw : w = g.W) (hh : h = g.H) (hl : xs.length = g.Cells.length) (hm : n = m ∨ (g.W ≤ n ∧ g.W ≤ m ∨ n ≤ -g.W ∧ m ≤ -g.W))
  (hp : ∀ k, k < g.Cells.length → cat xs k = partF g (shiftF g x y m) (y.toNat * g.W.toNat + x.toNat) a k) : (⟨w, h, xs⟩ : GridD) = gShift g x y n := by
 rw [shift_big h0.1 hm]
 exact part_done hw hh hl (fun k _ hk => shiftF_out (by omega) h0.1 h1 h0.2 (by rw [show (g.W - x).toNat = a by omega]; exact hk)) hp
theorem clearF_out {g : GridD} {a b : Int} {k : Nat} (h : ¬ (a ≤ (k : Int) ∧ (k : Int) < b)) : clearF g a b k = cat g.Cells k := by unfold clearF; rw [if_neg h]
theorem clearF_in {g : GridD} {a b : Int} {k : Nat} (h : a ≤ (k : Int) ∧ (k : Int) < b) : clearF g a b k = blankC := by unfold clearF; rw [if_pos h]
def isMove (b : Int) : Bool := decide (b = 65 ∨ b = 66 ∨ b = 67 ∨ b = 68 ∨ b = 71 ∨ b = 100 ∨ b = 72 ∨ b = 102)
def moveByD (s : ScrD) (n m b : Int) : ScrD :=
 if b = 65 then moveD s s.X (s.Y - n) else if b = 66 then moveD s s.X (s.Y + n) else if b = 67 then moveD s (s.X + n) s.Y else if b = 68 then moveD s (s.X - n) s.Y
 else if b = 71 then moveD s (n - 1) s.Y else if b = 100 then moveD s s.X (n - 1) else if b = 72 ∨ b = 102 then moveD s (m - 1) (n - 1) else s
theorem csiD_move {s : ScrD} {l : List Int} {b : Int} (h : isMove b = true) : csiD s l b = moveByD s (argI l 0 1) (argI l 1 1) b := by
 unfold isMove at h
 rw [decide_eq_true_eq] at h
 rcases h with rfl | rfl | rfl | rfl | rfl | rfl | rfl | rfl <;> rfl
theorem findI_bnd {p : Int → Bool} {s : List Int} (h : ¬ findI p s = -1) : 0 ≤ findI p s ∧ findI p s < s.length := by
 rcases findI_cases (p := p) (xs := s) with ⟨h1, _⟩ | ⟨i, hi, h1, _⟩
 ·exact absurd h1 h
 ·rw [h1]; omega
structure DelTo (p : Int → Bool) (s : List Int) (j m : Nat) (zs : List Int) : Prop where
 len : zs.length = s.length
 pre : zs.take m = (s.take j).filter (fun x => !p x)
 rest : ∀ k, j ≤ k → k < s.length → iat zs k = iat s k
theorem delTo_start {p : Int → Bool} {s : List Int} (h : ¬ findI p s = -1) : DelTo p s ((findI p s).toNat + 1) (findI p s).toNat s := by
 rcases findI_cases (p := p) (xs := s) with ⟨h1, _⟩ | ⟨i, hi, h1, h2, h3⟩
 ·exact absurd h1 h
 ·rw [h1, Int.toNat_natCast]
  refine ⟨rfl, ?_, fun _ _ _ => rfl⟩
  rw [List.take_add_one, List.getElem?_eq_getElem hi, List.filter_append]
  have e1 : (s.take i).filter (fun x => !p x) = s.take i := by
   rw [List.filter_eq_self]
   intro x hx
   obtain ⟨k, hk, rfl⟩ := List.mem_iff_getElem.1 hx
   rw [List.length_take] at hk
   rw [List.getElem_take, h3 k (by omega)]; rfl
  rw [e1]
  show _ = s.take i ++ List.filter _ [s[i]]
  rw [List.filter_cons, if_neg (by rw [h2]; decide)]
  exact (List.append_nil _).symm
theorem DelTo.keep {p : Int → Bool} {s zs : List Int} {j m : Nat} (h : DelTo p s j m zs) (hj : j < s.length) (hm : m < j) (hp : p (iat zs j) = false) : DelTo p s (j + 1) (m + 1) (zs.set m (iat zs j)) := by
 have hl := h.len
 refine ⟨by rw [List.length_set]; exact hl, ?_, fun k h1 h2 => ?_⟩
 ·rw [List.take_add_one, List.take_set_of_le (Nat.le_refl _), List.getElem?_set_self (by omega), h.pre, List.take_add_one (l := s), gat_get (F := encI) hj, List.filter_append]
  congr 1
  show _ = List.filter _ [iat s j]
  rw [← h.rest j (Nat.le_refl _) hj, List.filter_cons, if_pos (by rw [hp]; decide)]
  rfl
 ·show gat encI (zs.set m _) k = _
  rw [gat_set2 (by omega), if_neg (by omega)]
  exact h.rest k (by omega) h2
theorem DelTo.skip {p : Int → Bool} {s zs : List Int} {j m : Nat} (h : DelTo p s j m zs) (hj : j < s.length) (hp : p (iat zs j) = true) : DelTo p s (j + 1) m zs := by
 refine ⟨h.len, ?_, fun k h1 h2 => h.rest k (by omega) h2⟩
 rw [h.pre, List.take_add_one (l := s), gat_get (F := encI) hj, List.filter_append]
 show _ = _ ++ List.filter _ [iat s j]
 rw [← h.rest j (Nat.le_refl _) hj, List.filter_cons, if_neg (by rw [hp]; decide)]
 exact (List.append_nil _).symm
theorem DelTo.all {p : Int → Bool} {s zs : List Int} {j m : Nat} (h : DelTo p s j m zs) (hj : s.length ≤ j) : zs.take m = s.filter (fun x => !p x) := by
 rw [h.pre, List.take_of_length_le hj]
theorem del_none {p : Int → Bool} {s : List Int} (h : findI p s = -1) : s.filter (fun x => !p x) = s := by
 rcases findI_cases (p := p) (xs := s) with ⟨_, h1⟩ | ⟨i, hi, h1, _⟩
 ·rw [List.filter_eq_self]; intro x hx; rw [h1 x hx]; rfl
 ·rw [h1] at h; omega
theorem tabsD_0 {s : ScrD} : tabsD s 0 = { s with Tabs := s.Tabs.filter fun x => !decide (x = s.X) } := by
 unfold tabsD
 congr 1
 exact List.filter_congr (fun x _ => by simp)
theorem tabsD_3 {s : ScrD} : tabsD s 3 = { s with Tabs := [] } := by
 unfold tabsD
 congr 1
 rw [List.filter_eq_nil_iff]
 intro x _; simp
theorem tabsD_o {s : ScrD} {k : Int} (h0 : ¬ k = 0) (h3 : ¬ k = 3) : tabsD s k = s := by
 unfold tabsD
 rw [show s.Tabs.filter _ = s.Tabs from List.filter_eq_self.2 (fun x _ => by simp [h0, h3])]
theorem moveByD_no {s : ScrD} {n m b : Int} (h : isMove b = false) : moveByD s n m b = s := by
 unfold isMove at h
 rw [decide_eq_false_iff_not] at h
 unfold moveByD
 rw [if_neg (by omega), if_neg (by omega), if_neg (by omega), if_neg (by omega), if_neg (by omega), if_neg (by omega), if_neg (by omega)]
theorem isMove_no {b : Int} (h : isMove b = false) : ¬ b = 65 ∧ ¬ b = 66 ∧ ¬ b = 67 ∧ ¬ b = 68 ∧ ¬ b = 71 ∧ ¬ b = 100 ∧ ¬ (b = 72 ∨ b = 102) := by
 unfold isMove at h
 rw [decide_eq_false_iff_not] at h
 omega
def encV : Enc (SlD Int) := ⟨1, fun d => [.slice d.A d.n d.c], ⟨none, 0, 0, []⟩, fun _ => rfl, fun x v h => by simp at h; subst h; rfl, by decide⟩
theorem fine_smB {s : ScrD} {B : Nat} (h : ScrFine s) (hB : 20220 ≤ B) : smScr B s := totScr_sm (Nat.le_trans (scr_tot h.ok) hB)
def scrSeqRes (s : ScrD) (mark : Bool) (l : List Int) (b : Int) : ScrD := if scrOk s = true then seqD s mark l b else scr0
theorem scrCsi_no {s : ScrD} {mark : Bool} {l : List Int} {b : Int} (h : areArgs l = false) : scrCsiRes s mark l b = scr0 := by
 unfold scrCsiRes csiOk; rw [h]; rfl
theorem scrCsi_yes {s : ScrD} {mark : Bool} {l : List Int} {b : Int} (h : areArgs l = true) : scrCsiRes s mark l b = scrSeqRes s mark l b := by
 unfold scrCsiRes csiOk scrSeqRes; rw [h, Bool.true_and]
theorem clamp_eq {x h : Int} (h0 : 0 ≤ h) : clampI x h = if x < 0 then 0 else min x h := by unfold clampI; split <;> omega
theorem fill_one {g : GridD} {x y w h : Int} {c : CellD} {j : Nat} (hw : w = g.W) (hh : h = g.H) (h0 : 0 ≤ x ∧ x < g.W) (h1 : 0 ≤ y) (hj : j = (y * g.W).toNat + x.toNat) (hl : j < g.Cells.length) : (⟨w, h, g.Cells.set j c⟩ : GridD) = gFill g x y 1 1 c := by
 have e0 : (y * g.W).toNat = y.toNat * g.W.toNat := Int.toNat_mul h1 (by omega)
 obtain ⟨d1, d2⟩ := at_div (w := g.W.toNat) (y := y.toNat) (x := x.toNat) (by omega)
 refine part_done (lo := j) (a := 1) hw hh (List.length_set) (fun k hk hn => ?_) (fun k hk => ?_)
 ·unfold fillFn
  rw [if_neg]
  rintro ⟨h2, h3⟩
  apply hn
  have h4 := dm_eq (w := g.W.toNat) (k := k)
  have h6 : k / g.W.toNat = y.toNat := by omega
  rw [h6] at h4
  omega
 ·show gat encCell (g.Cells.set j c) k = _
  rw [gat_set2 hl]
  unfold partF
  by_cases hk2 : k = j
  ·rw [if_pos hk2, if_pos (by omega)]
   unfold fillFn
   rw [hk2, hj, e0, d1, d2, if_pos (by omega)]
  ·rw [if_neg hk2, if_neg (by omega)]
def nxt (l : List Int) (x d : Int) : Int := (l.find? fun n => decide (x < n)).getD d
theorem nxt_drop {l : List Int} {x d : Int} {i : Nat} (h : i < l.length) : nxt (l.drop i) x d = if x < iat l i then iat l i else nxt (l.drop (i + 1)) x d := by
 unfold nxt
 rw [List.drop_eq_getElem_cons h, List.find?_cons, show iat l i = l[i] from gat_lt h]
 by_cases hx : x < l[i]
 ·rw [decide_eq_true hx, if_pos hx]; rfl
 ·rw [decide_eq_false hx, if_neg hx]
theorem nxt_end {l : List Int} {x d : Int} : nxt (l.drop l.length) x d = d := by rw [List.drop_length]; rfl
theorem nextTab_nxt {s : ScrD} : nextTab s = nxt s.Tabs s.X (s.W - 1) := by
 unfold nextTab nxt
 rcases findI_cases (p := fun n => decide (s.X < n)) (xs := s.Tabs) with ⟨e, h⟩ | ⟨i, hi, e, h1, h2⟩
 ·rw [e, if_neg (by omega), List.find?_eq_none.2 (fun x hx => by rw [h x hx]; exact Bool.false_ne_true)]; rfl
 ·have hf : (s.Tabs.find? fun n => decide (s.X < n)) = some s.Tabs[i] := List.find?_eq_some_iff_getElem.2 ⟨h1, i, hi, rfl, fun j hj => by have h3 := h2 j hj; simpa using h3⟩
  rw [e, if_pos (by omega), show ((i : Int)).toNat = i by omega, show iat s.Tabs i = s.Tabs[i] from gat_lt hi, hf]; rfl
theorem runeD_lt {s s1 : ScrD} {r : Int} (h1 : s1 = if s.Wrap = true then { downD s with X := 0 } else s) (hx : s1.X ≠ s1.W - 1) : runeD s r = { putD s1 (gFill (shownD s1) s1.X s1.Y 1 1 ⟨r, s1.A⟩) with X := s1.X + 1 } := by
 subst h1; exact if_neg hx
theorem runeD_eq {s s1 : ScrD} {r : Int} (h1 : s1 = if s.Wrap = true then { downD s with X := 0 } else s) (hx : s1.X = s1.W - 1) : runeD s r = wrapD (putD s1 (gFill (shownD s1) s1.X s1.Y 1 1 ⟨r, s1.A⟩)) (!s1.NoWrap) := by
 subst h1; exact if_pos hx
def doAct (s : ScrD) (a : ActD) : ScrD := if a.Kind = 1 then (if shows a.R = true then runeD s a.R else s) else if a.Kind = 2 then ctlD s a.R else if a.Kind = 3 then escD s a.R else if a.Kind = 4 then seqD s a.Mark a.Args a.R else s
theorem ScrFine.act {s : ScrD} {a : ActD} (h : ScrFine s) (ha : areArgs a.Args = true) : ScrFine (doAct s a) := by
 unfold doAct
 refine fine_ite ?_ (fine_ite h.ctl (fine_ite h.esc (fine_ite (h.seq ha) h)))
 split
 ·rename_i hr; exact h.rune hr
 ·exact h
structure Same (s t : ScrD) (k : Nat) : Prop where
 W : t.W = s.W
 H : t.H = s.H
 L : t.Limit = s.Limit
 B : t.Back.length ≤ s.Back.length + k
theorem Same.refl {s : ScrD} {k : Nat} : Same s s k := ⟨rfl, rfl, rfl, Nat.le_add_right _ _⟩
theorem Same.mono {s t : ScrD} {k m : Nat} (h : Same s t k) (hk : k ≤ m) : Same s t m := ⟨h.W, h.H, h.L, Nat.le_trans h.B (Nat.add_le_add_left hk _)⟩
theorem Same.trans {s t u : ScrD} {k : Nat} (h : Same s t k) (g : Same t u 0) : Same s u k := ⟨g.W.trans h.W, g.H.trans h.H, g.L.trans h.L, Nat.le_trans g.B h.B⟩
theorem same_ite {p : Prop} [Decidable p] {s a b : ScrD} {k : Nat} (ha : Same s a k) (hb : Same s b k) : Same s (if p then a else b) k := by split <;> assumption
theorem same_put {s : ScrD} {g : GridD} {k : Nat} : Same s (putD s g) k := by unfold putD; split <;> exact ⟨rfl, rfl, rfl, Nat.le_add_right _ _⟩
theorem same_wrap {s t : ScrD} {b : Bool} {k : Nat} (h : Same s t k) : Same s (wrapD t b) k := ⟨h.W, h.H, h.L, h.B⟩
theorem same_x {s t : ScrD} {x : Int} {k : Nat} (h : Same s t k) : Same s { t with X := x } k := ⟨h.W, h.H, h.L, h.B⟩
theorem same_keep {s : ScrD} {n : Int} (h : ScrFine s) : Same s (keepD s n) s.H.toNat := by
 have hr := h.reg
 unfold keepD
 refine same_ite ⟨rfl, rfl, rfl, ?_⟩ Same.refl
 show (lastN _ _).length ≤ _
 unfold lastN
 rw [List.length_drop, List.length_append, List.length_map, List.length_range]
 omega
theorem same_rollUp {s : ScrD} {n : Int} (h : ScrFine s) : Same s (rollUpD s n) s.H.toNat := (same_keep h).trans same_put
theorem same_down {s : ScrD} (h : ScrFine s) : Same s (downD s) s.H.toNat := by
 unfold downD
 refine same_wrap (same_ite (same_rollUp h) (same_ite ?_ Same.refl))
 exact ⟨rfl, rfl, rfl, Nat.le_add_right _ _⟩
theorem same_move {s : ScrD} {x y : Int} {k : Nat} : Same s (moveD s x y) k := ⟨rfl, rfl, rfl, Nat.le_add_right _ _⟩
theorem same_rune {s : ScrD} {r : Int} (h : ScrFine s) : Same s (runeD s r) s.H.toNat := by
 have h1 : Same s (if s.Wrap = true then { downD s with X := 0 } else s) s.H.toNat := same_ite (same_x (same_down h)) Same.refl
 unfold runeD
 generalize (if s.Wrap = true then { downD s with X := 0 } else s) = s1 at h1
 have h2 := h1.trans (same_put (g := gFill (shownD s1) s1.X s1.Y 1 1 ⟨r, s1.A⟩))
 show Same s (if s1.X = s1.W - 1 then _ else _) _
 exact same_ite (same_wrap h2) (same_x h2)
theorem same_ctl {s : ScrD} {b : Int} (h : ScrFine s) : Same s (ctlD s b) s.H.toNat := by
 unfold ctlD
 exact same_ite same_move (same_ite same_move (same_ite (same_down h) (same_ite same_move Same.refl)))
structure Small (s : ScrD) : Prop where
 fine : ScrFine s
 w : s.W ≤ 10
 h : s.H ≤ 4
 l : s.Limit ≤ 3
theorem Small.of {s t : ScrD} {k : Nat} (h : Small s) (g : Same s t k) (f : ScrFine t) : Small t := ⟨f, by rw [g.W]; exact h.w, by rw [g.H]; exact h.h, by rw [g.L]; exact h.l⟩
theorem Small.new {w h l : Int} (hw : 1 ≤ w ∧ w ≤ 10) (hh : 1 ≤ h ∧ h ≤ 4) (hl : 0 ≤ l ∧ l ≤ 3) : Small (scrRes w h l) := by
 have hm : w * h ≤ 10 * 4 := Int.mul_le_mul hw.2 hh.2 (by omega) (by omega)
 have hs : isSize w h = true := by
  unfold isSize
  rw [Bool.and_eq_true, Bool.and_eq_true, within_iff, within_iff, decide_eq_true_eq]
  omega
 have e : scrRes w h l = scrNew w h l := by
  unfold scrRes scrMay
  rw [if_pos]
  rw [Bool.and_eq_true, within_iff]
  exact ⟨hs, by omega⟩
 rw [e]
 exact ⟨ScrFine.fresh hs (by omega), hw.2, hh.2, hl.2⟩
theorem Small.rune {s : ScrD} {q : Int} (h : Small s) : Small (scrRuneRes s q) := by
 unfold scrRuneRes
 rw [if_pos h.fine.ok]
 split
 ·rename_i hq; exact h.of (same_rune h.fine) (h.fine.rune hq)
 ·exact h
theorem Small.ctl {s : ScrD} {b : Int} (h : Small s) : Small (scrCtlRes s b) := by
 unfold scrCtlRes
 rw [if_pos h.fine.ok]
 exact h.of (same_ctl h.fine) h.fine.ctl
theorem Small.go {s : ScrD} {x y : Int} (h : Small s) : Small (scrGoRes s x y) := by
 unfold scrGoRes
 rw [if_pos h.fine.ok]
 exact h.of (same_move (k := 0)) h.fine.move
theorem Small.sgr {s : ScrD} {a : AttrD} (h : Small s) (ha : attrOk a.Fg a.Bg = true) : Small { s with A := a } :=
 have f := h.fine
 ⟨⟨f.gM, f.gA, f.dim, f.pos, f.sav, f.wrp, ha, f.aS, f.reg, f.lim, f.tab, f.row⟩, h.w, h.h, h.l⟩
theorem Small.alt {s : ScrD} {b : Bool} (h : Small s) : Small { s with OnAlt := b } :=
 have f := h.fine
 ⟨⟨f.gM, f.gA, f.dim, f.pos, f.sav, f.wrp, f.aA, f.aS, f.reg, f.lim, f.tab, f.row⟩, h.w, h.h, h.l⟩
theorem Small.nowrap {s : ScrD} {b : Bool} (h : Small s) : Small { s with NoWrap := b } :=
 have f := h.fine
 ⟨⟨f.gM, f.gA, f.dim, f.pos, f.sav, f.wrp, f.aA, f.aS, f.reg, f.lim, f.tab, f.row⟩, h.w, h.h, h.l⟩
theorem Small.part {s : ScrD} {t : Int} (h : Small s) (ht : 0 ≤ t ∧ t < s.H - 1) : Small { s with Top := t, Bot := t + 1 } :=
 have f := h.fine
 ⟨⟨f.gM, f.gA, f.dim, f.pos, f.sav, f.wrp, f.aA, f.aS, (by show (0 ≤ t ∧ t ≤ t + 1) ∧ t + 1 < s.H ∧ (t = t + 1 → s.H = 1); omega), f.lim, f.tab, f.row⟩, h.w, h.h, h.l⟩
theorem Small.saved {s : ScrD} {x y : Int} {a : AttrD} (h : Small s) (hx : 0 ≤ x ∧ x < s.W) (hy : 0 ≤ y ∧ y < s.H) (ha : attrOk a.Fg a.Bg = true) : Small { s with SaveX := x, SaveY := y, SaveA := a } :=
 have f := h.fine
 ⟨⟨f.gM, f.gA, f.dim, f.pos, ⟨hx, hy⟩, f.wrp, f.aA, ha, f.reg, f.lim, f.tab, f.row⟩, h.w, h.h, h.l⟩
def sameG (a b : GridD) : Bool := (decide (a.W = b.W) && decide (a.H = b.H)) && decide (a.Cells = b.Cells)
theorem sameG_self {a b : GridD} (h : a = b) : sameG a b = true := by subst h; simp [sameG]
def tbt1 : TT := .node .leaf 0 ⟨.other, 1, false⟩ .leaf
def tbt2 : TT := .node tbt1 3 ⟨.int .i64, 1, false⟩ .leaf
def tbt3 : TT := .node .leaf 5 ⟨.int .u8, 1, false⟩ .leaf
def tbt4 : TT := .node tbt2 4 ⟨.bool, 1, false⟩ tbt3
def tbt5 : TT := .node .leaf 22 ⟨.slice 5, 1, false⟩ .leaf
def tbt6 : TT := .node .leaf 25 ⟨.struct [0, 1, 2], 3, true⟩ .leaf
def tbt7 : TT := .node tbt5 23 ⟨.slice 58, 1, false⟩ tbt6
def tbt8 : TT := .node tbt4 20 ⟨.other, 1, false⟩ tbt7
def tbt9 : TT := .node .leaf 28 ⟨.slice 3, 1, false⟩ .leaf
def tbt10 : TT := .node tbt9 29 ⟨.slice 56, 1, false⟩ .leaf
def tbt11 : TT := .node .leaf 33 ⟨.other, 1, false⟩ .leaf
def tbt12 : TT := .node tbt10 31 ⟨.struct [0, 1, 2, 5, 8, 9, 10, 11, 12, 17, 18, 19, 20, 21, 22, 23, 28, 29, 30], 31, true⟩ tbt11
def tbt13 : TT := .node .leaf 56 ⟨.struct [0], 1, true⟩ .leaf
def tbt14 : TT := .node .leaf 59 ⟨.other, 1, false⟩ .leaf
def tbt15 : TT := .node tbt13 58 ⟨.struct [0, 1], 6, true⟩ tbt14
def tbt16 : TT := .node tbt12 41 ⟨.other, 1, false⟩ tbt15
def tbt17 : TT := .node tbt8 27 ⟨.struct [0, 1, 2, 3, 4], 5, true⟩ tbt16
def tbt18 : TT := .node .leaf 67 ⟨.other, 1, false⟩ .leaf
def tbt19 : TT := .node tbt18 68 ⟨.slice 25, 1, false⟩ .leaf
def tbt20 : TT := .node .leaf 83 ⟨.other, 1, false⟩ .leaf
def tbt21 : TT := .node tbt19 76 ⟨.other, 1, false⟩ tbt20
def tbt22 : TT := .node .leaf 102 ⟨.other, 1, false⟩ .leaf
def tbt23 : TT := .node .leaf 120 ⟨.other, 1, false⟩ .leaf
def tbt24 : TT := .node tbt22 114 ⟨.other, 1, false⟩ tbt23
def tbt25 : TT := .node tbt21 86 ⟨.struct [0, 1, 2], 3, true⟩ tbt24
def tbt26 : TT := .node .leaf 127 ⟨.other, 1, false⟩ .leaf
def tbt27 : TT := .node .leaf 144 ⟨.int .u32, 1, false⟩ .leaf
def tbt28 : TT := .node tbt26 135 ⟨.other, 1, false⟩ tbt27
def tbt29 : TT := .node .leaf 147 ⟨.int .u64, 1, false⟩ .leaf
def tbt30 : TT := .node .leaf 150 ⟨.other, 1, false⟩ .leaf
def tbt31 : TT := .node tbt29 148 ⟨.other, 1, false⟩ tbt30
def tbt32 : TT := .node tbt28 145 ⟨.other, 1, false⟩ tbt31
def tbt33 : TT := .node tbt25 122 ⟨.int .u64, 1, false⟩ tbt32
def tbt34 : TT := .node tbt17 65 ⟨.other, 1, false⟩ tbt33
theorem tbt1_ok : tbt1.Ok Try.prog := ⟨trivial, ⟨trivial, Try.sizeOf0, Try.isAgg0⟩, trivial⟩
theorem tbt2_ok : tbt2.Ok Try.prog := ⟨tbt1_ok, ⟨Try.runUnderlying3, Try.sizeOf3, Try.isAgg3⟩, trivial⟩
theorem tbt3_ok : tbt3.Ok Try.prog := ⟨trivial, ⟨Try.runUnderlying5, Try.sizeOf5, Try.isAgg5⟩, trivial⟩
theorem tbt4_ok : tbt4.Ok Try.prog := ⟨tbt2_ok, ⟨Try.runUnderlying4, Try.sizeOf4, Try.isAgg4⟩, tbt3_ok⟩
theorem tbt5_ok : tbt5.Ok Try.prog := ⟨trivial, ⟨Try.runUnderlying22, Try.sizeOf22, Try.isAgg22⟩, trivial⟩
theorem tbt6_ok : tbt6.Ok Try.prog := ⟨trivial, ⟨⟨_, Try.runUnderlying25, rfl, ⟨⟨_, Try.sizeOf3, rfl⟩, ⟨⟨_, Try.sizeOf3, rfl⟩, ⟨⟨_, Try.sizeOf23, rfl⟩, trivial⟩⟩⟩⟩, Try.sizeOf25, Try.isAgg25⟩, trivial⟩
theorem tbt7_ok : tbt7.Ok Try.prog := ⟨tbt5_ok, ⟨Try.runUnderlying23, Try.sizeOf23, Try.isAgg23⟩, tbt6_ok⟩
theorem tbt8_ok : tbt8.Ok Try.prog := ⟨tbt4_ok, ⟨trivial, Try.sizeOf20, Try.isAgg20⟩, tbt7_ok⟩
theorem tbt9_ok : tbt9.Ok Try.prog := ⟨trivial, ⟨Try.runUnderlying28, Try.sizeOf28, Try.isAgg28⟩, trivial⟩
theorem tbt10_ok : tbt10.Ok Try.prog := ⟨tbt9_ok, ⟨Try.runUnderlying29, Try.sizeOf29, Try.isAgg29⟩, trivial⟩
theorem tbt11_ok : tbt11.Ok Try.prog := ⟨trivial, ⟨trivial, Try.sizeOf33, Try.isAgg33⟩, trivial⟩
theorem tbt12_ok : tbt12.Ok Try.prog := ⟨tbt10_ok, ⟨⟨_, Try.runUnderlying31, rfl, ⟨⟨_, Try.sizeOf3, rfl⟩, ⟨⟨_, Try.sizeOf3, rfl⟩, ⟨⟨_, Try.sizeOf25, rfl⟩, ⟨⟨_, Try.sizeOf25, rfl⟩, ⟨⟨_, Try.sizeOf4, rfl⟩, ⟨⟨_, Try.sizeOf3, rfl⟩, ⟨⟨_, Try.sizeOf3, rfl⟩, ⟨⟨_, Try.sizeOf4, rfl⟩, ⟨⟨_, Try.sizeOf27, rfl⟩, ⟨⟨_, Try.sizeOf3, rfl⟩, ⟨⟨_, Try.sizeOf3, rfl⟩, ⟨⟨_, Try.sizeOf4, rfl⟩, ⟨⟨_, Try.sizeOf4, rfl⟩, ⟨⟨_, Try.sizeOf3, rfl⟩, ⟨⟨_, Try.sizeOf3, rfl⟩, ⟨⟨_, Try.sizeOf27, rfl⟩, ⟨⟨_, Try.sizeOf28, rfl⟩, ⟨⟨_, Try.sizeOf3, rfl⟩, ⟨⟨_, Try.sizeOf29, rfl⟩, trivial⟩⟩⟩⟩⟩⟩⟩⟩⟩⟩⟩⟩⟩⟩⟩⟩⟩⟩⟩⟩, Try.sizeOf31, Try.isAgg31⟩, tbt11_ok⟩
theorem tbt13_ok : tbt13.Ok Try.prog := ⟨trivial, ⟨⟨_, Try.runUnderlying56, rfl, ⟨⟨_, Try.sizeOf23, rfl⟩, trivial⟩⟩, Try.sizeOf56, Try.isAgg56⟩, trivial⟩
theorem tbt14_ok : tbt14.Ok Try.prog := ⟨trivial, ⟨trivial, Try.sizeOf59, Try.isAgg59⟩, trivial⟩
theorem tbt15_ok : tbt15.Ok Try.prog := ⟨tbt13_ok, ⟨⟨_, Try.runUnderlying58, rfl, ⟨⟨_, Try.sizeOf3, rfl⟩, ⟨⟨_, Try.sizeOf27, rfl⟩, trivial⟩⟩⟩, Try.sizeOf58, Try.isAgg58⟩, tbt14_ok⟩
theorem tbt16_ok : tbt16.Ok Try.prog := ⟨tbt12_ok, ⟨trivial, Try.sizeOf41, Try.isAgg41⟩, tbt15_ok⟩
theorem tbt17_ok : tbt17.Ok Try.prog := ⟨tbt8_ok, ⟨⟨_, Try.runUnderlying27, rfl, ⟨⟨_, Try.sizeOf3, rfl⟩, ⟨⟨_, Try.sizeOf3, rfl⟩, ⟨⟨_, Try.sizeOf4, rfl⟩, ⟨⟨_, Try.sizeOf4, rfl⟩, ⟨⟨_, Try.sizeOf4, rfl⟩, trivial⟩⟩⟩⟩⟩⟩, Try.sizeOf27, Try.isAgg27⟩, tbt16_ok⟩
theorem tbt18_ok : tbt18.Ok Try.prog := ⟨trivial, ⟨trivial, Try.sizeOf67, Try.isAgg67⟩, trivial⟩
theorem tbt19_ok : tbt19.Ok Try.prog := ⟨tbt18_ok, ⟨Try.runUnderlying68, Try.sizeOf68, Try.isAgg68⟩, trivial⟩
theorem tbt20_ok : tbt20.Ok Try.prog := ⟨trivial, ⟨trivial, Try.sizeOf83, Try.isAgg83⟩, trivial⟩
theorem tbt21_ok : tbt21.Ok Try.prog := ⟨tbt19_ok, ⟨trivial, Try.sizeOf76, Try.isAgg76⟩, tbt20_ok⟩
theorem tbt22_ok : tbt22.Ok Try.prog := ⟨trivial, ⟨trivial, Try.sizeOf102, Try.isAgg102⟩, trivial⟩
theorem tbt23_ok : tbt23.Ok Try.prog := ⟨trivial, ⟨trivial, Try.sizeOf120, Try.isAgg120⟩, trivial⟩
theorem tbt24_ok : tbt24.Ok Try.prog := ⟨tbt22_ok, ⟨trivial, Try.sizeOf114, Try.isAgg114⟩, tbt23_ok⟩
theorem tbt25_ok : tbt25.Ok Try.prog := ⟨tbt21_ok, ⟨⟨_, Try.runUnderlying86, rfl, ⟨⟨_, Try.sizeOf22, rfl⟩, ⟨⟨_, Try.sizeOf3, rfl⟩, ⟨⟨_, Try.sizeOf3, rfl⟩, trivial⟩⟩⟩⟩, Try.sizeOf86, Try.isAgg86⟩, tbt24_ok⟩
theorem tbt26_ok : tbt26.Ok Try.prog := ⟨trivial, ⟨trivial, Try.sizeOf127, Try.isAgg127⟩, trivial⟩
theorem tbt27_ok : tbt27.Ok Try.prog := ⟨trivial, ⟨Try.runUnderlying144, Try.sizeOf144, Try.isAgg144⟩, trivial⟩
theorem tbt28_ok : tbt28.Ok Try.prog := ⟨tbt26_ok, ⟨trivial, Try.sizeOf135, Try.isAgg135⟩, tbt27_ok⟩
theorem tbt29_ok : tbt29.Ok Try.prog := ⟨trivial, ⟨Try.runUnderlying147, Try.sizeOf147, Try.isAgg147⟩, trivial⟩
theorem tbt30_ok : tbt30.Ok Try.prog := ⟨trivial, ⟨trivial, Try.sizeOf150, Try.isAgg150⟩, trivial⟩
theorem tbt31_ok : tbt31.Ok Try.prog := ⟨tbt29_ok, ⟨trivial, Try.sizeOf148, Try.isAgg148⟩, tbt30_ok⟩
theorem tbt32_ok : tbt32.Ok Try.prog := ⟨tbt28_ok, ⟨trivial, Try.sizeOf145, Try.isAgg145⟩, tbt31_ok⟩
theorem tbt33_ok : tbt33.Ok Try.prog := ⟨tbt25_ok, ⟨Try.runUnderlying122, Try.sizeOf122, Try.isAgg122⟩, tbt32_ok⟩
theorem tbt34_ok : tbt34.Ok Try.prog := ⟨tbt17_ok, ⟨trivial, Try.sizeOf65, Try.isAgg65⟩, tbt33_ok⟩
theorem tbk : TT.Ok Try.prog tbt34 := tbt34_ok
instance tbkI : TbOk Try.prog tbt34 := ⟨tbk⟩
instance mxI : Mx Try.prog := ⟨by kernel_rfl⟩
theorem mixed : Try.prog.follows .mixedOrders = true := by kernel_rfl
instance boolPW {n lo hi : Int} : BoolP (within n lo hi) (lo ≤ n ∧ n ≤ hi) (¬ (lo ≤ n ∧ n ≤ hi)) := ⟨within_iff.1, within_not.1⟩
theorem k0_ (n lo hi : Int) (w : World) :
    Calls Try.prog 33 #[i64 n, i64 lo, i64 hi] w fun e w' => e = .returned (.bool (within n lo hi)) ∧ St w [] [] w' := by
 refine enter 15 Try.func33 rfl Try.ntmps33 rfl rfl ?_
 have hs1 := St.init w
 refine WC.r1 hs1 [] rfl (WC.sr (WL.r 4 hs1 [] rfl (WL.pA tbk 3 Acts.nil hs1 [] rfl rfl rfl rfl (fun g_ => trivial) (WL.r 1 hs1 [] rfl (WL.nil (WC.ret (retV1 rfl (resV.tmp rfl) ?_)))))))
 refine ⟨congrArg Ending.returned ?_, hs1.nil⟩
 rfl
theorem k1_ (n : Int) (w : World) :
    Calls Try.prog 48 #[i64 n] w fun e w' => e = .returned (.bool (shows n)) ∧ St w [] [] w' := by
 refine enter 14 Try.func48 rfl Try.ntmps48 rfl rfl ?_
 have hs1 := St.init w
 refine WC.r1 hs1 [] rfl (WC.sr (WL.r 1 hs1 [] rfl (WL.cl Try.call33 rfl (k0_ _ _ _ _) ?_)))
 rintro _ whs2 ⟨rfl, hs2⟩
 replace hs2 := hs1.call0 hs2
 refine ⟨_, rfl, WL.r 1 hs2 [] rfl ?_⟩
 apply WL.gO 7 Acts.nil hs2 rfl
 ·intro g3 J4
  have qg3 := g3
  try simp only [bf, within_iff, within_not] at qg3
  refine WL.runA tbk 1 (Acts.nil.cons (j := 2) rfl g3) hs2 [] rfl trivial (WL.call (wantF rfl g3) rfl rfl (Run.call Try.call33 rfl rfl rfl) (k0_ _ _ _ _) ?_)
  rintro _ whs5 ⟨rfl, hs5⟩
  replace hs5 := hs2.call0 hs5
  refine ⟨_, rfl, WL.runA tbk 1 (Acts.nil.cons (j := 2) rfl g3) hs5 [] rfl trivial ?_⟩
  apply WL.gA 3 (Acts.nil.cons (j := 2) rfl g3) hs5 rfl
  ·intro g6 J7
   have qg6 := g6
   try simp only [bf, within_iff, within_not] at qg6
   refine WL.runA tbk 1 (Acts.nil.cons (j := 5) rfl g6) hs5 [] rfl trivial (WL.call (wantT rfl g6) rfl rfl (Run.call Try.call33 rfl rfl rfl) (k0_ _ _ _ _) ?_)
   rintro _ whs8 ⟨rfl, hs8⟩
   replace hs8 := hs5.call0 hs8
   refine ⟨_, rfl, WL.runA tbk 1 (Acts.nil.cons (j := 5) rfl g6) hs8 [] rfl trivial (WL.eA 3 (Acts.nil.cons (j := 2) rfl g3) J7 hs8 g6 rfl rfl)⟩
  intro _ hs9
  exact WL.eO 4 Acts.nil J4 hs9 g3 rfl rfl
 intro _ hs10
 refine WL.r 1 hs10 [] rfl (WL.nil (WC.ret (rtv rfl rfl hs10 ?_)))
 rfl
theorem k2_ (n : Int) (w : World) :
    Calls Try.prog 87 #[i64 n] w fun e w' => e = .returned (.bool (shows n)) ∧ St w [] [] w' := by
 refine enter 25 Try.func87 rfl Try.ntmps87 rfl rfl ?_
 have hs1 := St.init w
 refine WC.r1 hs1 [] rfl (WC.sr (WL.r 3 hs1 [] rfl (WL.pA tbk 2 Acts.nil hs1 [] rfl rfl rfl rfl (fun g_ => trivial) (WL.r 1 hs1 [] rfl ?_))))
 apply WL.gO 14 Acts.nil hs1 rfl
 ·intro g2 J3
  have qg2 := g2
  try simp only [bf, within_iff, within_not] at qg2
  refine WL.runA tbk 3 (Acts.nil.cons (j := 6) rfl g2) hs1 [] rfl trivial (WL.pA tbk 2 (Acts.nil.cons (j := 6) rfl g2) hs1 [] rfl rfl rfl rfl (fun g_ => trivial) (WL.runA tbk 1 (Acts.nil.cons (j := 6) rfl g2) hs1 [] rfl trivial ?_))
  apply WL.gA 6 (Acts.nil.cons (j := 6) rfl g2) hs1 rfl
  ·intro g4 J5
   have qg4 := g4
   try simp only [bf, within_iff, within_not] at qg4
   refine WL.runA tbk 3 (Acts.nil.cons (j := 13) rfl g4) hs1 [] rfl trivial (WL.pO tbk 2 (Acts.nil.cons (j := 13) rfl g4) hs1 [] rfl rfl rfl rfl (fun g_ => trivial) (WL.eA 4 (Acts.nil.cons (j := 6) rfl g2) J5 hs1 g4 rfl rfl))
  intro _ hs6
  exact WL.eO 6 Acts.nil J3 hs6 g2 rfl rfl
 intro _ hs7
 refine WL.r 1 hs7 [] rfl (WL.nil (WC.ret (rtv rfl rfl hs7 ?_)))
 refine congrArg Value.bool ?_; rw [Bool.eq_iff_iff]; simp [shows, within] <;> omega
theorem k3_ (a_Fg : Int) (a_Bg : Int) (a_Bold : Bool) (a_Under : Bool) (a_Turn : Bool) (w : World) :
    Calls Try.prog 31 #[.agg #[i64 a_Fg, i64 a_Bg, .bool a_Bold, .bool a_Under, .bool a_Turn]] w fun e w' => e = .returned (.bool (attrOk a_Fg a_Bg)) ∧ St w [] [] w' := by
 refine enter 11 Try.func31 rfl Try.ntmps31 rfl rfl ?_
 have hs1 := St.init w
 refine WC.sr (WL.bx hs1 rfl (fun b2 _ hs3 => WL.r 1 hs3 [] rfl (WL.nil (WC.sr (WL.r 2 hs3 [0] rfl (WL.cl Try.call33 rfl (k0_ _ _ _ _) ?_))))))
 rintro _ whs4 ⟨rfl, hs4⟩
 replace hs4 := hs3.call0 hs4
 refine ⟨_, rfl, WL.r 1 hs4 [] rfl ?_⟩
 apply WL.gA 3 Acts.nil hs4 rfl
 ·intro g5 J6
  have qg5 := g5
  try simp only [bf, within_iff, within_not] at qg5
  refine WL.runA tbk 2 (Acts.nil.cons (j := 3) rfl g5) hs4 [0] rfl ⟨rfl, trivial⟩ (WL.call (wantT rfl g5) rfl rfl (Run.call Try.call33 rfl rfl rfl) (k0_ _ _ _ _) ?_)
  rintro _ whs7 ⟨rfl, hs7⟩
  replace hs7 := hs4.call0 hs7
  refine ⟨_, rfl, WL.eA 3 Acts.nil J6 hs7 g5 rfl rfl⟩
 intro _ hs8
 refine WL.r 1 hs8 [] rfl (WL.nil (WC.ret (rtv rfl rfl hs8 ?_)))
 rfl
theorem k4_ (a_Fg : Int) (a_Bg : Int) (a_Bold : Bool) (a_Under : Bool) (a_Turn : Bool) (w : World) :
    Calls Try.prog 72 #[.agg #[i64 a_Fg, i64 a_Bg, .bool a_Bold, .bool a_Under, .bool a_Turn]] w fun e w' => e = .returned (.bool (attrOk a_Fg a_Bg)) ∧ St w [] [] w' := by
 refine enter 21 Try.func72 rfl Try.ntmps72 rfl rfl ?_
 have hs1 := St.init w
 refine WC.sr (WL.bx hs1 rfl (fun b2 _ hs3 => WL.r 1 hs3 [] rfl (WL.nil (WC.sr (WL.r 4 hs3 [0] rfl (WL.pA tbk 3 Acts.nil hs3 [0] rfl rfl rfl rfl (fun g_ => ⟨rfl, trivial⟩) (WL.r 1 hs3 [] rfl ?_)))))))
 refine WL.pA tbk 3 Acts.nil hs3 [0] rfl rfl rfl rfl (fun g_ => ⟨rfl, trivial⟩) (WL.r 1 hs3 [] rfl (WL.pA tbk 3 Acts.nil hs3 [0] rfl rfl rfl rfl (fun g_ => ⟨rfl, trivial⟩) (WL.r 1 hs3 [] rfl (WL.nil (WC.ret (rtv rfl rfl hs3 ?_))))))
 simp [attrOk, within, Bool.and_assoc]
theorem k5_ (c_R : Int) (c_A_Fg : Int) (c_A_Bg : Int) (c_A_Bold : Bool) (c_A_Under : Bool) (c_A_Turn : Bool) (w : World) :
    Calls Try.prog 99 #[.agg #[i64 c_R, i64 c_A_Fg, i64 c_A_Bg, .bool c_A_Bold, .bool c_A_Under, .bool c_A_Turn]] w fun e w' => e = .returned (.bool (cellOk ⟨c_R, ⟨c_A_Fg, c_A_Bg, c_A_Bold, c_A_Under, c_A_Turn⟩⟩)) ∧ St w [] [] w' := by
 refine enter 11 Try.func99 rfl Try.ntmps99 rfl rfl ?_
 have hs1 := St.init w
 refine WC.sr (WL.bx hs1 rfl (fun b2 _ hs3 => WL.r 1 hs3 [] rfl (WL.nil (WC.sr (WL.r 2 hs3 [0] rfl (WL.cl Try.call48 rfl (k1_ _ _) ?_))))))
 rintro _ whs4 ⟨rfl, hs4⟩
 replace hs4 := hs3.call0 hs4
 refine ⟨_, rfl, WL.r 1 hs4 [] rfl ?_⟩
 apply WL.gA 3 Acts.nil hs4 rfl
 ·intro g5 J6
  have qg5 := g5
  try simp only [bf, within_iff, within_not] at qg5
  refine WL.runA tbk 2 (Acts.nil.cons (j := 3) rfl g5) hs4 [0] rfl ⟨rfl, trivial⟩ (WL.call (wantT rfl g5) rfl rfl (Run.call Try.call31 rfl rfl rfl) (k3_ _ _ _ _ _ _) ?_)
  rintro _ whs7 ⟨rfl, hs7⟩
  replace hs7 := hs4.call0 hs7
  refine ⟨_, rfl, WL.eA 3 Acts.nil J6 hs7 g5 rfl rfl⟩
 intro _ hs8
 refine WL.r 1 hs8 [] rfl (WL.nil (WC.ret (rtv rfl rfl hs8 ?_)))
 rfl
theorem k6_ (c_R : Int) (c_A_Fg : Int) (c_A_Bg : Int) (c_A_Bold : Bool) (c_A_Under : Bool) (c_A_Turn : Bool) (w : World) :
    Calls Try.prog 101 #[.agg #[i64 c_R, i64 c_A_Fg, i64 c_A_Bg, .bool c_A_Bold, .bool c_A_Under, .bool c_A_Turn]] w fun e w' => e = .returned (.bool (cellOk ⟨c_R, ⟨c_A_Fg, c_A_Bg, c_A_Bold, c_A_Under, c_A_Turn⟩⟩)) ∧ St w [] [] w' := by
 refine enter 11 Try.func101 rfl Try.ntmps101 rfl rfl ?_
 have hs1 := St.init w
 refine WC.sr (WL.bx hs1 rfl (fun b2 _ hs3 => WL.r 1 hs3 [] rfl (WL.nil (WC.sr (WL.r 2 hs3 [0] rfl (WL.cl Try.call87 rfl (k2_ _ _) ?_))))))
 rintro _ whs4 ⟨rfl, hs4⟩
 replace hs4 := hs3.call0 hs4
 refine ⟨_, rfl, WL.r 1 hs4 [] rfl ?_⟩
 apply WL.gA 3 Acts.nil hs4 rfl
 ·intro g5 J6
  have qg5 := g5
  try simp only [bf, within_iff, within_not] at qg5
  refine WL.runA tbk 2 (Acts.nil.cons (j := 3) rfl g5) hs4 [0] rfl ⟨rfl, trivial⟩ (WL.call (wantT rfl g5) rfl rfl (Run.call Try.call72 rfl rfl rfl) (k4_ _ _ _ _ _ _) ?_)
  rintro _ whs7 ⟨rfl, hs7⟩
  replace hs7 := hs4.call0 hs7
  refine ⟨_, rfl, WL.eA 3 Acts.nil J6 hs7 g5 rfl rfl⟩
 intro _ hs8
 refine WL.r 1 hs8 [] rfl (WL.nil (WC.ret (rtv rfl rfl hs8 ?_)))
 rfl
theorem k7_ (c_R : Int) (c_A_Fg : Int) (c_A_Bg : Int) (c_A_Bold : Bool) (c_A_Under : Bool) (c_A_Turn : Bool) (w : World) :
    Calls Try.prog 98 #[.agg #[i64 c_R, i64 c_A_Fg, i64 c_A_Bg, .bool c_A_Bold, .bool c_A_Under, .bool c_A_Turn]] w fun e w' => e = .returned (.bool (!cellOk ⟨c_R, ⟨c_A_Fg, c_A_Bg, c_A_Bold, c_A_Under, c_A_Turn⟩⟩)) ∧ St w [] [] w' := by
 refine enter 6 Try.func98 rfl Try.ntmps98 rfl rfl ?_
 have hs1 := St.init w
 refine WC.sr (WL.bx hs1 rfl (fun b2 _ hs3 => WL.r 1 hs3 [] rfl (WL.nil (WC.sr (WL.r 1 hs3 [0] rfl (WL.cl Try.call99 rfl (k5_ _ _ _ _ _ _ _) ?_))))))
 rintro _ whs4 ⟨rfl, hs4⟩
 replace hs4 := hs3.call0 hs4
 refine ⟨_, rfl, WL.r 2 hs4 [] rfl (WL.nil (WC.ret (rtv rfl rfl hs4 ?_)))⟩
 rfl
theorem k8_ (A_s : Option Addr) (n_s c_s : Nat) (s : List CellD) (w : World) (f_s : SlF encCell w A_s n_s s) (hn : n_s ≤ 1099511627776) :
    Calls Try.prog 127 #[.slice A_s n_s c_s, .func (.func 98) #[] #[]] w fun e w' => e = .returned (.int .i64 (findI (fun c => !cellOk c) s)) ∧ St w [] [] w' := by
 refine enter 19 Try.func127 rfl Try.ntmps127 rfl rfl ?_
 have hs1 := St.init w
 refine WC.r1 hs1 [] rfl (WC.seq (fun K2 hK2 => WC.r1 hs1 [] rfl (WC.block ?_)))
 refine WC.lS [0, 1, 7] rfl hs1 (fun k_ f w' => ∃ (i : Nat), k_ = n_s - i ∧ (i ≤ n_s) ∧ (∀ j, j < i → (fun c => !cellOk c) (gat encCell s j) = false) ∧ Sub [(8, .int .i64 i)] f) ((fun (i : Nat) => n_s - i) (0)) ?_ ?_
 ·refine ⟨0, rfl, ?_, ?_, ⟨rfl, trivial⟩⟩
  · exact Nat.zero_le _
  · exact fun j hj => absurd hj (by omega)
 clear hs1
 rintro _ f w ⟨i, rfl, p0, p1, hG⟩ hF hs3
 refine WC.sub _ (hG.app hF) ?_
 clear hG hF
 refine WC.r1 hs3 [] rfl (WC.seq (fun K4 hK4 => ?_))
 refine WC.cond rfl (fun h5 => ?_) (fun h5 => ?_)
 ·have qh5 := h5
  try simp only [decide_eq_true_eq, decide_eq_false_iff_not] at qh5
  refine WC.skip (hK4 _ _ (WC.seq (fun K6 hK6 => WC.block (WC.r1 hs3 [] rfl (WC.sr (WL.r 3 hs3 [] rfl ?_))))))
  refine WL.val rfl rfl rfl (Run.idxN Try.runUnderlying23 Try.sizeOf58 rfl rfl rfl ?_ ?_ ?_) ?_
  · exact SlF.some_ (SlF.st0 f_s hs3)
  · omega
  · omega
  refine WL.val rfl rfl rfl (Run.loadA Try.isAgg58 Try.sizeOf58 rfl rfl (SlF.whole (SlF.st0 f_s hs3) ?_)) ?_
  · omega
  refine WL.cl Try.call98 rfl (k7_ _ _ _ _ _ _ _) ?_
  rintro _ whs7 ⟨rfl, hs7⟩
  replace hs7 := hs3.call0 hs7
  refine ⟨_, rfl, WL.nil (WC.cond rfl (fun h8 => ?_) (fun h8 => ?_))⟩
  ·have qh8 := h8
   try simp only [decide_eq_true_eq, decide_eq_false_iff_not] at qh8
   refine WC.r1 hs7 [] rfl (WC.ret (ibR (tkR (tkR (ibR (tkR ?_))))))
   clear hK6 hK2
   refine rtv rfl rfl hs7 ?_
   rw [findI_some (F := encCell) (by rw [f_s.len]; omega) p1 h8]
  have qh8 := h8
  try simp only [decide_eq_true_eq, decide_eq_false_iff_not] at qh8
  refine WC.skip (hK6 _ _ (WC.region (WL.r 2 hs7 [] rfl (WL.nil (tkN ?_)))))
  refine ⟨sbF rfl, hs7, _, ?_, i + 1, rfl, ?_, ?_, ⟨rfl, trivial⟩⟩
  · omega
  · omega
  · intro j hj; rcases Nat.lt_or_ge j i with h_ | h_
    · exact p1 j h_
    · obtain rfl : j = i := by omega
      exact h8
 have qh5 := h5
 try simp only [decide_eq_true_eq, decide_eq_false_iff_not] at qh5
 refine WC.exit (hK2 _ _ (WC.r1 hs3 [] rfl (WC.ret (rtv rfl rfl hs3 ?_))))
 rw [findI_none (F := encCell) (fun j hj => p1 j (by rw [f_s.len] at hj; omega))]
theorem k9_ (A_s : Option Addr) (n_s c_s : Nat) (s : List CellD) (w : World) (f_s : SlF encCell w A_s n_s s) (hn : n_s ≤ 1099511627776) :
    Calls Try.prog 97 #[.slice A_s n_s c_s, .func (.func 98) #[] #[]] w fun e w' => e = .returned (.bool (decide (0 ≤ findI (fun c => !cellOk c) s))) ∧ St w [] [] w' := by
 refine enter 9 Try.func97 rfl Try.ntmps97 rfl rfl ?_
 have hs1 := St.init w
 refine WC.r1 hs1 [] rfl (WC.sr (WL.r 2 hs1 [] rfl (WL.cl Try.call127 rfl (k8_ _ _ _ _ _ (SlF.st0 f_s hs1) ?_) ?_)))
 · first | assumption | rfl | omega
 rintro _ whs2 ⟨rfl, hs2⟩
 replace hs2 := hs1.call0 hs2
 refine ⟨_, rfl, WL.r 2 hs2 [] rfl (WL.nil (WC.ret (rtv rfl rfl hs2 ?_)))⟩
 rfl
theorem k10_ (A_l : Option Addr) (n_l c_l : Nat) (l : List CellD) (w : World) (f_l : SlF encCell w A_l n_l l) (hn : n_l ≤ 1099511627776) :
    Calls Try.prog 67 #[.slice A_l n_l c_l] w fun e w' => e = .returned (.bool (cellsOk l)) ∧ St w [] [] w' := by
 refine enter 6 Try.func67 rfl Try.ntmps67 rfl rfl ?_
 have hs1 := St.init w
 refine WC.r1 hs1 [] rfl (WC.sr (WL.r 1 hs1 [] rfl (WL.cl Try.call97 rfl (k9_ _ _ _ _ _ (SlF.st0 f_l hs1) ?_) ?_)))
 · first | assumption | rfl | omega
 rintro _ whs2 ⟨rfl, hs2⟩
 replace hs2 := hs1.call0 hs2
 refine ⟨_, rfl, WL.r 2 hs2 [] rfl (WL.nil (WC.ret (rtv rfl rfl hs2 ?_)))⟩
 rw [cellsOk_find]
theorem inf3 : Try.prog.info? 3 = some Try.t3 := by kernel_rfl
theorem k11_ (A_s : Option Addr) (n_s c_s : Nat) (s : List Int) (w : World) (f_s : SlF encI w A_s n_s s) (hn : n_s ≤ 268435456) :
    Calls Try.prog 93 #[.slice A_s n_s c_s] w fun e w' => ∃ A c L1, e = .returned (.slice A (s).length c) ∧ St w [] L1 w' ∧ OwnF encI 3 (.slice A (s).length c) (s) L1 := by
 have hl := f_s.len
 refine enter 8 Try.func93 rfl Try.ntmps93 rfl rfl ?_
 have hs1 := St.init w
 refine WC.r1 hs1 [] rfl (WC.seq (fun K2 hK2 => WC.sr (WL.r 1 hs1 [] rfl (WL.val rfl rfl rfl (Run.eqlNil Try.underlying28 rfl rfl rfl) (WL.nil ?_)))))
 refine WC.cq rfl (fun h3 qh3 => ?_) (fun h3 qh3 => ?_)
 ·obtain rfl : A_s = none := by simpa using qh3
  have h0 : n_s = 0 := SlF.none_ f_s
  have hs : s = [] := List.eq_nil_of_length_eq_zero (by omega)
  refine WC.r1 hs1 [] rfl (WC.ret (tkR ?_))
  clear hK2
  refine retV1 rfl (resV.tmp rfl) ?_
  have hx_ := OwnF.eqOf (xs := s) (OwnF.nil encI 3) (by rw [hs])
  rw [← hx_]
  exact ⟨_, _, _, rfl, hs1.nil, (OwnF.nil encI 3)⟩
 refine WC.skip (hK2 _ _ (WC.sr (WL.buildF (F := encI) hs1 ([]) Try.runUnderlying28 Try.sizeOf3 Try.zeroValue3 rfl rfl rfl rfl rfl rfl rfl rfl rfl rfl rfl rfl (fun A7 c8 L4 whs5 hs5 ho6 => WL.r 1 hs5 [] rfl ?_))))
 refine WL.appendG hs5 ho6 (SlF.src (SlF.st0 f_s hs5) Try.underlying28) Try.underlying28 inf3 rfl rfl rfl rfl rfl rfl rfl rfl rfl rfl ?_ (fun A12 c13 L9 whs10 hs10 ho11 => ?_)
 · simp; omega
 refine WL.r 1 hs10 [] rfl (WL.nil (WC.ret (retV1 rfl (resV.tmp rfl) ?_)))
 have hx_ := OwnF.eqOf (xs := s) ho11 (by simp)
 rw [← hx_]
 first | exact ⟨_, _, _, rfl, (St.keep1 hs10), ho11⟩ | exact ⟨A12, c13, _, by rw [OwnF.len_ ho11], (St.keep1 hs10), by rw [OwnF.len_ ho11]; exact ho11⟩
theorem inf58 : Try.prog.info? 58 = some Try.t58 := by kernel_rfl
theorem built_58_0 (x0 : Int) : Try.prog.built 58 [(0, .int .i64 x0)] = some (List.toArray [.int .i64 x0, .int .i64 0, .int .i64 0, .bool false, .bool false, .bool false]) := by kernel_rfl
theorem built_25_0_1_2 (x0 : Int) (x1 : Int) (x2 : Option Addr) (x3 : Nat) (x4 : Nat) : Try.prog.built 25 [(0, .int .i64 x0), (1, .int .i64 x1), (2, .slice x2 x3 x4)] = some (List.toArray [.int .i64 x0, .int .i64 x1, .slice x2 x3 x4]) := by kernel_rfl
theorem built_31 : Try.prog.built 31 [] = some (List.toArray [.int .i64 0, .int .i64 0, .int .i64 0, .int .i64 0, .slice none 0 0, .int .i64 0, .int .i64 0, .slice none 0 0, .bool false, .int .i64 0, .int .i64 0, .bool false, .int .i64 0, .int .i64 0, .bool false, .bool false, .bool false, .int .i64 0, .int .i64 0, .bool false, .bool false, .int .i64 0, .int .i64 0, .int .i64 0, .int .i64 0, .bool false, .bool false, .bool false, .slice none 0 0, .int .i64 0, .slice none 0 0]) := by kernel_rfl
theorem built_31_0_1_2_3_10_16_17 (x0 : Int) (x1 : Int) (x2 : Value) (x3 : Value) (x4 : Value) (x5 : Value) (x6 : Value) (x7 : Value) (x8 : Int) (x9 : Option Addr) (x10 : Nat) (x11 : Nat) (x12 : Int) : Try.prog.built 31 [(0, .int .i64 x0), (1, .int .i64 x1), (2, .agg [x2, x3, x4].toArray), (3, .agg [x5, x6, x7].toArray), (10, .int .i64 x8), (16, .slice x9 x10 x11), (17, .int .i64 x12)] = some (List.toArray [.int .i64 x0, .int .i64 x1, x2, x3, x4, x5, x6, x7, .bool false, .int .i64 0, .int .i64 0, .bool false, .int .i64 0, .int .i64 0, .bool false, .bool false, .bool false, .int .i64 0, .int .i64 x8, .bool false, .bool false, .int .i64 0, .int .i64 0, .int .i64 0, .int .i64 0, .bool false, .bool false, .bool false, .slice x9 x10 x11, .int .i64 x12, .slice none 0 0]) := by kernel_rfl
theorem k12_ (w_ h_ : Int) (w : World) :
    Calls Try.prog 25 #[i64 w_, i64 h_] w fun e w' => e = .returned (.bool (isSize w_ h_)) ∧ St w [] [] w' := by
 refine enter 17 Try.func25 rfl Try.ntmps25 rfl rfl ?_
 have hs1 := St.init w
 refine WC.r1 hs1 [] rfl (WC.sr (WL.r 1 hs1 [] rfl (WL.cl Try.call33 rfl (k0_ _ _ _ _) ?_)))
 rintro _ whs2 ⟨rfl, hs2⟩
 replace hs2 := hs1.call0 hs2
 refine ⟨_, rfl, WL.r 1 hs2 [] rfl ?_⟩
 apply WL.gA 2 Acts.nil hs2 rfl
 ·intro g3 J4
  have qg3 := g3
  try simp only [bf, within_iff, within_not] at qg3
  refine WL.runA tbk 1 (Acts.nil.cons (j := 2) rfl g3) hs2 [] rfl trivial (WL.call (wantT rfl g3) rfl rfl (Run.call Try.call33 rfl rfl rfl) (k0_ _ _ _ _) ?_)
  rintro _ whs5 ⟨rfl, hs5⟩
  replace hs5 := hs2.call0 hs5
  refine ⟨_, rfl, WL.eA 2 Acts.nil J4 hs5 g3 rfl rfl⟩
 intro _ hs6
 refine WL.r 1 hs6 [] rfl ?_
 apply WL.gA 4 Acts.nil hs6 rfl
 ·intro g7 J8
  have qg7 := g7
  try simp only [bf, within_iff, within_not] at qg7
  refine WL.runA tbk 4 (Acts.nil.cons (j := 6) rfl g7) hs6 [] rfl ⟨?_, trivial⟩ ?_
  · (have h9 := mul_size (w := w_) (h := h_) (by omega) (by omega); constructor <;> omega)
  exact WL.eA 4 Acts.nil J8 hs6 g7 rfl rfl
 intro _ hs9
 refine WL.r 1 hs9 [] rfl (WL.nil (WC.ret (rtv rfl rfl hs9 ?_)))
 rfl
theorem k13_  (w : World) :
    Calls Try.prog 96 #[] w fun e w' => e = .returned (.agg #[i64 32, i64 0, i64 0, .bool false, .bool false, .bool false]) ∧ St w [] [] w' := by
 refine enter 2 Try.func96 rfl Try.ntmps96 rfl rfl ?_
 have hs1 := St.init w
 refine WC.sr (WL.al hs1 Try.zeroValue58 rfl rfl (fun b2 _ hs3 => WL.nil (WC.sr ?_)))
 refine WL.val rfl rfl rfl (Run.build rfl rfl rfl rfl (built_58_0 _)) (WL.st tbk hs3 0 rfl rfl (fun _ hs4 => WL.nil (WC.ret (retV1 rfl (resV.cellA tbk hs4 0 rfl rfl rfl rfl) (⟨congrArg Ending.returned ?_, hs4.nil⟩)))))
 rfl
theorem k14_  (w : World) :
    Calls Try.prog 46 #[] w fun e w' => e = .returned (.agg #[i64 32, i64 0, i64 0, .bool false, .bool false, .bool false]) ∧ St w [] [] w' := by
 refine enter 2 Try.func46 rfl Try.ntmps46 rfl rfl ?_
 have hs1 := St.init w
 refine WC.sr (WL.al hs1 Try.zeroValue58 rfl rfl (fun b2 _ hs3 => WL.nil (WC.sr ?_)))
 refine WL.val rfl rfl rfl (Run.build rfl rfl rfl rfl (built_58_0 _)) (WL.st tbk hs3 0 rfl rfl (fun _ hs4 => WL.nil (WC.ret (retV1 rfl (resV.cellA tbk hs4 0 rfl rfl rfl rfl) (⟨congrArg Ending.returned ?_, hs4.nil⟩)))))
 rfl
theorem k15_ (c : Nat) (w : World) (hc : c < 4294967296) :
    Calls Try.prog 140 #[.int .u64 ((1 : Nat) : Int), .int .u64 (c : Int)] w fun e w' => e = .returned (.tuple #[.int .u64 ((0 : Nat) : Int), .int .u64 (c : Int)]) ∧ St w [] [] w' := by
 refine enter 51 Try.func140 rfl Try.ntmps140 rfl rfl ?_
 have hs1 := St.init w
 refine WC.r1 hs1 [] rfl (WC.sr (WL.r 1 hs1 [] rfl (WL.val rfl rfl rfl (Run.maskU (1) rfl rfl rfl ?_) ?_)))
 · omega
 refine WL.r 1 hs1 [] rfl (WL.nil (WC.sr (WL.r 1 hs1 [] rfl (WL.val rfl rfl rfl (Run.shrU (1) (0) rfl rfl rfl ?_ ?_ ?_) ?_))))
 · omega
 · omega
 · show _ / 4294967296 = _; omega
 refine WL.r 1 hs1 [] rfl (WL.nil (WC.sr (WL.r 1 hs1 [] rfl (WL.val rfl rfl rfl (Run.maskU (c) rfl rfl rfl ?_) ?_))))
 · omega
 refine WL.r 1 hs1 [] rfl (WL.nil (WC.sr (WL.r 1 hs1 [] rfl (WL.val rfl rfl rfl (Run.shrU (c) (0) rfl rfl rfl ?_ ?_ ?_) ?_))))
 · omega
 · omega
 · show _ / 4294967296 = _; omega
 refine WL.r 1 hs1 [] rfl (WL.nil (WC.sr (WL.r 2 hs1 [] rfl (WL.val rfl rfl rfl (Run.asN (c) (Run.mulW rfl rfl rfl) ?_) ?_))))
 · exact wrapU _ (by omega) (by omega)
 refine WL.r 1 hs1 [] rfl (WL.nil (WC.sr (WL.r 2 hs1 [] rfl (WL.val rfl rfl rfl (Run.asN (0) (Run.mulW rfl rfl rfl) ?_) ?_))))
 · exact wrapU _ (by omega) (by omega)
 refine WL.r 1 hs1 [] rfl (WL.val rfl rfl rfl (Run.shrU (c) (0) rfl rfl rfl ?_ ?_ ?_) ?_)
 · omega
 · omega
 · show _ / 4294967296 = _; omega
 refine WL.val rfl rfl rfl (Run.asN (0) (Run.addW rfl rfl rfl) ?_) ?_
 · exact wrapU _ (by omega) (by omega)
 refine WL.r 1 hs1 [] rfl (WL.nil (WC.sr (WL.r 1 hs1 [] rfl (WL.val rfl rfl rfl (Run.maskU (0) rfl rfl rfl ?_) ?_))))
 · omega
 refine WL.r 1 hs1 [] rfl (WL.nil (WC.sr (WL.r 1 hs1 [] rfl (WL.val rfl rfl rfl (Run.shrU (0) (0) rfl rfl rfl ?_ ?_ ?_) ?_))))
 · omega
 · omega
 · show _ / 4294967296 = _; omega
 refine WL.r 1 hs1 [] rfl (WL.nil (WC.sr (WL.r 3 hs1 [] rfl (WL.val rfl rfl rfl (Run.asN (0) (Run.mulW rfl rfl rfl) ?_) ?_))))
 · exact wrapU _ (by omega) (by omega)
 refine WL.val rfl rfl rfl (Run.asN (0) (Run.addW rfl rfl rfl) ?_) ?_
 · exact wrapU _ (by omega) (by omega)
 refine WL.r 1 hs1 [] rfl (WL.nil (WC.sr (WL.r 2 hs1 [] rfl (WL.val rfl rfl rfl (Run.asN (0) (Run.mulW rfl rfl rfl) ?_) ?_))))
 · exact wrapU _ (by omega) (by omega)
 refine WL.r 1 hs1 [] rfl (WL.val rfl rfl rfl (Run.asN (0) (Run.addW rfl rfl rfl) ?_) ?_)
 · exact wrapU _ (by omega) (by omega)
 refine WL.r 1 hs1 [] rfl (WL.val rfl rfl rfl (Run.shrU (0) (0) rfl rfl rfl ?_ ?_ ?_) ?_)
 · omega
 · omega
 · show _ / 4294967296 = _; omega
 refine WL.val rfl rfl rfl (Run.asN (0) (Run.addW rfl rfl rfl) ?_) ?_
 · exact wrapU _ (by omega) (by omega)
 refine WL.r 1 hs1 [] rfl (WL.nil (WC.sr (WL.r 2 hs1 [] rfl (WL.val rfl rfl rfl (Run.asN (c) (Run.mulW rfl rfl rfl) ?_) ?_))))
 · exact wrapU _ (by omega) (by omega)
 refine WL.r 1 hs1 [] rfl (WL.nil (WC.ret (retV2 rfl (resV.tmp rfl) (resV.tmp rfl) (⟨congrArg Ending.returned ?_, hs1.nil⟩))))
 rfl
theorem k16_ (c : Nat) (w : World) (hc : c < 4294967296) :
    Calls Try.prog 126 #[.int .u64 ((1 : Nat) : Int), .int .u64 (c : Int)] w fun e w' => e = .returned (.tuple #[.int .u64 ((0 : Nat) : Int), .int .u64 (c : Int)]) ∧ St w [] [] w' := by
 refine enter 30 Try.func126 rfl Try.ntmps126 rfl rfl ?_
 have hs1 := St.init w
 refine WC.r1 hs1 [] rfl (WC.seq (fun K2 hK2 => WC.condF rfl rfl (WC.skip (hK2 _ _ (WC.sr (WL.r 2 hs1 [] rfl ?_))))))
 refine WL.cl Try.call140 rfl (k15_ _ _ ?_) ?_
 · first | assumption | rfl | omega
 rintro _ whs4 ⟨rfl, hs4⟩
 replace hs4 := hs1.call0 hs4
 refine ⟨_, rfl, WL.r 5 hs4 [] rfl (WL.nil (WC.r1 hs4 [] rfl (WC.ret (retV2 rfl (resV.tmp rfl) (resV.tmp rfl) (⟨congrArg Ending.returned ?_, hs4.nil⟩)))))⟩
 rfl
theorem k17_ (A_x : Option Addr) (n_x c_x : Nat) (x : List CellD) (q_ : Int) (w : World) (f_x : SlF encCell w A_x n_x x) (hx : n_x = 1) (hc : 1 ≤ q_ ∧ q_ ≤ 4000) :
    Calls Try.prog 95 #[.slice A_x n_x c_x, i64 q_] w fun e w' => ∃ A c L1, e = .returned (.slice A (List.replicate q_.toNat (gat encCell x 0)).length c) ∧ St w [] L1 w' ∧ OwnF encCell 58 (.slice A (List.replicate q_.toNat (gat encCell x 0)).length c) (List.replicate q_.toNat (gat encCell x 0)) L1 := by
 have hx1 := hx ▸ f_x.len
 refine enter 48 Try.func95 rfl Try.ntmps95 rfl rfl ?_
 have hs1 := St.init w
 refine WC.r1 hs1 [] rfl (WC.seq (fun K2 hK2 => WC.r1 hs1 [] rfl (WC.condF rfl (decide_eq_false (by omega)) (WC.skip (hK2 _ _ (WC.sr (WL.r 2 hs1 [] rfl ?_)))))))
 refine WL.val rfl rfl rfl (Run.asN (1) (Run.conv Try.runUnderlying3 Try.runUnderlying122 rfl rfl) ?_) ?_
 · exact wrapU _ (by omega) (by decide)
 refine WL.r 1 hs1 [] rfl (WL.val rfl rfl rfl (Run.asN (q_.toNat) (Run.conv Try.runUnderlying3 Try.runUnderlying122 rfl rfl) ?_) ?_)
 · exact wrapU _ (by omega) (by omega)
 refine WL.cl Try.call126 rfl (k16_ _ _ ?_) ?_
 · first | assumption | rfl | omega
 rintro _ whs4 ⟨rfl, hs4⟩
 replace hs4 := hs1.call0 hs4
 refine ⟨_, rfl, WL.r 5 hs4 [] rfl (WL.nil (WC.seq (fun K5 hK5 => WC.sr (WL.r 1 hs4 [] rfl (WL.val rfl rfl rfl (Run.gtr rfl rfl rfl) (WL.r 1 hs4 [] rfl ?_))))))⟩
 apply WL.gO 2 Acts.nil hs4 rfl
 ·intro g6 J7
  have qg6 := g6
  try simp only [bf, within_iff, within_not] at qg6
  refine WL.runA tbk 1 (Acts.nil.cons (j := 2) rfl g6) hs4 [] rfl trivial (WL.val (wantF rfl g6) rfl rfl (Run.gtr rfl rfl rfl) (WL.eO 2 Acts.nil J7 hs4 g6 rfl rfl))
 intro _ hs8
 refine WL.nil ?_
 refine WC.condF rfl (by (try simp only [bf]); constructor <;> omega) (WC.skip (hK5 _ _ (WC.sr (WL.r 1 hs8 [] rfl ?_))))
 refine WL.val rfl rfl rfl (Run.asN (q_.toNat) (Run.conv Try.runUnderlying122 Try.runUnderlying3 rfl rfl) ?_) ?_
 · exact wrap_in (by constructor <;> omega)
 refine WL.makeF (F := encCell) hs8 Try.underlying23 inf58 rfl rfl rfl rfl rfl rfl rfl rfl rfl ?_ ?_ (fun A13 c14 L10 whs11 hs11 ho12 => ?_)
 · have e_ : Try.t58.bytes = 32 := rfl
   rw [e_]; omega
 · omega
 refine WL.r 1 hs11 [] rfl (WL.nil (WC.sr (WL.r 2 hs11 [] rfl (WL.copyF (lo := 0) hs11 ho12 (SlF.st0 f_x hs11) Try.underlying23 Try.underlying23 inf58 rfl rfl rfl rfl rfl rfl rfl (.inr ⟨rfl, rfl⟩) ?_ ?_ (fun L15 _ hs16 ho17 => ?_)))))
 · first | omega | (simp; omega)
 · first | omega | (simp; omega)
 refine WL.r 1 hs16 [] rfl (WL.nil (WC.seq (fun K18 hK18 => WC.block ?_)))
 refine WC.lO [4, 10, 26] rfl hs16 (fun k_ f L_ => ∃ (m : Nat), k_ = q_.toNat - m ∧ (1 ≤ m) ∧ (m ≤ q_.toNat) ∧ OwnF encCell 58 (.slice A13 (q_.toNat) c14) (List.replicate m (gat encCell x 0) ++ List.replicate (q_.toNat - m) encCell.dflt) L_ ∧ Sub [(7, .slice A13 (q_.toNat) c14), (8, .int .i64 m)] f) (((fun (m : Nat) => q_.toNat - m) (1))) ?_ ?_
 ·refine ⟨1, rfl, ?_, ?_, (rep_first (n := q_.toNat) (by omega) hx hx1 ▸ ho17), ⟨rfl, ?_, trivial⟩⟩
  · omega
  · omega
  · (refine congrArg some (congrArg (Value.int _) ?_); omega)
 clear hs16
 rintro _ f w L21 ⟨m, rfl, p0, p1, ho22, hG⟩ hF hs23
 refine WC.sub _ (hG.app hF) ?_
 clear hG hF
 have hlm : (List.replicate m (gat encCell x 0) ++ List.replicate (q_.toNat - m) encCell.dflt).length = q_.toNat := by simp; omega
 refine WC.seq (fun K24 hK24 => WC.r1 hs23 [] rfl ?_)
 refine WC.cq rfl (fun h25 qh25 => ?_) (fun h25 qh25 => ?_)
 ·refine WC.skip (hK24 _ _ (WC.block (WC.rH (hs23.rm L21) hs23 (fun _ hs26 => ?_))))
  refine WH.rn [0, 1, 2] (hs26.rm L21) [] rfl rfl ?_
  have hc_ := OwnF.cap ho22
  refine WH.take 3 rfl (by kernel_rfl) rfl rfl rfl (hs26.rm L21) (fun w_ hs_ => (Run.sliceL (m) Try.runUnderlying23 Try.sizeOf58 rfl rfl rfl ?_ ?_)) ?_
  · first | rfl | (omega)
  · refine ⟨?_, ?_, ?_⟩ <;> (omega)
  refine WH.rn [4, 5] (hs26.rm L21) [] rfl rfl ?_
  have hc_ := OwnF.cap ho22
  refine WH.take 6 rfl (by kernel_rfl) rfl rfl rfl (hs26.rm L21) (fun w_ hs_ => (Run.sliceH (m) Try.runUnderlying23 Try.sizeOf58 rfl rfl rfl ?_ ?_)) ?_
  · first | rfl | (omega)
  · refine ⟨?_, ?_, ?_⟩ <;> (omega)
  refine WH.o1 7 rfl ?_
  refine WL.copyF (lo := m) hs26 ho22 (SlF.cutH (m) (SlF.ofOwn ho22 (hs26.ow L21)) (by refine ⟨?_, ?_, ?_⟩ <;> (omega))) Try.underlying23 Try.underlying23 inf58 rfl rfl rfl rfl rfl rfl rfl (.inl rfl) ?_ ?_ (fun L27 _ hs28 ho29 => ?_)
  · first | omega | (simp; omega)
  · first | omega | (simp; omega)
  refine WL.nil ⟨(hs28.rm L27), WH.rn [8, 9] (hs28.rm L27) [] rfl rfl (WH.dn (ibN (tkN (⟨sbF rfl, _, hs28, _, ?_, (m + min m (q_.toNat - m)), rfl, ?_, ?_, (rep_next p0 p1 ▸ ho29), ⟨rfl, ?_, trivial⟩⟩))))⟩
  · omega
  · omega
  · omega
  · (refine congrArg some (congrArg (Value.int _) ?_); omega)
 refine WC.exit (hK18 _ _ (WC.r1 hs23 [] rfl (WC.ret (retV1 rfl (resV.tmp rfl) ?_))))
 have hx_ := OwnF.eqOf (xs := List.replicate q_.toNat (gat encCell x 0)) ho22 (by rw [show m = q_.toNat by omega, Nat.sub_self]; simp)
 rw [← hx_]
 first | exact ⟨_, _, _, rfl, (St.keep1 hs23), ho22⟩ | exact ⟨A13, c14, _, by rw [OwnF.len_ ho22], (St.keep1 hs23), by rw [OwnF.len_ ho22]; exact ho22⟩
theorem k18_ (w_ : Int) (h_ : Int) (w : World) (hs : isSize w_ h_ = true) :
    Calls Try.prog 64 #[i64 w_, i64 h_] w fun e w' => ∃ r L1, e = .returned (.agg #[i64 r.W, i64 r.H, .slice r.Cells.A r.Cells.n r.Cells.c]) ∧ St w [] L1 w' ∧ ownGridR r L1 ∧ r.dat = gridNew w_ h_ := by
 obtain ⟨hw, hh, hm1, hm2⟩ := isSize_bnd hs
 refine enter 14 Try.func64 rfl Try.ntmps64 rfl rfl ?_
 have hs1 := St.init w
 refine WC.sr (WL.al hs1 Try.zeroValue25 rfl rfl (fun b2 _ hs3 => WL.nil (WC.sr (WL.r 2 hs3 [] rfl (WL.cl Try.call96 rfl (k13_ _) ?_)))))
 rintro _ whs4 ⟨rfl, hs4⟩
 replace hs4 := hs3.call0 hs4
 refine ⟨_, rfl, WL.buildF (F := encCell) hs4 ([blankC]) Try.runUnderlying23 Try.sizeOf58 Try.zeroValue58 rfl rfl rfl rfl rfl rfl rfl rfl rfl rfl rfl rfl (fun A8 c9 L5 whs6 hs6 ho7 => ?_)⟩
 replace hs6 := St.back [_] hs6
 refine WL.r 3 hs6 [] rfl (WL.cl Try.call95 rfl (k17_ _ _ _ _ _ _ (SlF.ofOwn ho7 (hs6.ow L5)) ?_ ?_) ?_)
 iterate 2 first | assumption | rfl | omega
 rintro _ whs10 ⟨A11, c12, L1_13, rfl, hs10, ho14⟩
 replace hs10 := hs6.callF hs10
 refine ⟨_, rfl, ?_⟩
 replace hs10 := St.back [_] hs10
 refine WL.val rfl rfl rfl (Run.build rfl rfl rfl rfl (built_25_0_1_2 _ _ _ _ _)) (WL.st tbk hs10 0 rfl rfl (fun _ hs15 => WL.nil (WC.ret (retV1 rfl (resV.cellA tbk hs15 0 rfl rfl rfl rfl) ?_))))
 refine ⟨⟨w_, h_, SlD.of ho14⟩, _, rfl, (St.keep1 (hs15.fr L1_13)), ?_, ?_⟩
 · exact ho14
 · rfl
theorem built_25 : Try.prog.built 25 [] = some (List.toArray [.int .i64 0, .int .i64 0, .slice none 0 0]) := by kernel_rfl
theorem built_25_0_1 (x0 : Int) (x1 : Int) : Try.prog.built 25 [(0, .int .i64 x0), (1, .int .i64 x1)] = some (List.toArray [.int .i64 x0, .int .i64 x1, .slice none 0 0]) := by kernel_rfl
theorem k19_ (g : GridR) (w : World) (f_g : okGridR 549755813888 w g) (hsm : smGrid 1099511627 g.dat) :
    Calls Try.prog 39 #[.agg #[i64 g.W, i64 g.H, .slice g.Cells.A g.Cells.n g.Cells.c]] w fun e w' => ∃ r L1, e = .returned (.agg #[i64 r.W, i64 r.H, .slice r.Cells.A r.Cells.n r.Cells.c]) ∧ St w [] L1 w' ∧ ownGridR r L1 ∧ r.dat = g.dat := by
 have nb_g_Cells := f_g.Cells_n
 have nl_g_Cells := f_g.Cells.len
 have hl9 : g.Cells.xs.length ≤ 1099511627 := hsm
 refine enter 9 Try.func39 rfl Try.ntmps39 rfl rfl ?_
 have hs1 := St.init w
 refine WC.sr (WL.bx hs1 rfl (fun b2 _ hs3 => WL.al hs3 Try.zeroValue25 rfl rfl (fun b4 _ hs5 => WL.nil (WC.sr (WL.buildF (F := encCell) hs5 ([]) Try.runUnderlying23 Try.sizeOf58 Try.zeroValue58 rfl rfl rfl rfl rfl rfl rfl rfl rfl rfl rfl rfl (fun A9 c10 L6 whs7 hs7 ho8 => ?_))))))
 replace hs7 := St.back [_, _] hs7
 refine WL.r 2 hs7 [1] rfl (WL.appendG (hs7.fr L6) ho8 (SlF.src (SlF.st0 f_g.Cells hs7) Try.underlying23) Try.underlying23 inf58 rfl rfl rfl rfl rfl rfl rfl rfl rfl rfl ?_ (fun A14 c15 L11 whs12 hs12 ho13 => ?_))
 · simp; omega
 replace hs12 := St.back [_, _] hs12
 refine WL.r 1 hs12 [] rfl (WL.st tbk hs12 1 rfl rfl (fun _ hs16 => WL.nil (WC.sr (WL.r 1 hs16 [1] rfl (WL.st tbk hs16 0 rfl rfl (fun _ hs17 => WL.nil (WC.ret ?_)))))))
 refine retV1 rfl (resV.cellA tbk hs17 0 rfl rfl rfl rfl) (⟨⟨g.W, g.H, SlD.of ho13⟩, _, rfl, (St.keep1 (hs17.fr L11)), ?_, ?_⟩)
 · exact ho13
 · rfl
theorem k20_ (w_ : Int) (h_ : Int) (w : World) :
    Calls Try.prog 14 #[i64 w_, i64 h_] w fun e w' => ∃ r0 L0, e = .returned (.tuple #[.agg #[i64 r0.W, i64 r0.H, .slice r0.Cells.A r0.Cells.n r0.Cells.c], .bool (isSize w_ h_)]) ∧ St w [] (L0) w' ∧ ownGridR r0 L0 ∧ r0.dat = gridRes w_ h_ := by
 refine enter 46 Try.func14 rfl Try.ntmps14 rfl rfl ?_
 have hs1 := St.init w
 refine WC.sr (WL.al hs1 Try.zeroValue25 rfl rfl (fun b2 _ hs3 => WL.r 1 hs3 [] rfl (WL.nil (WC.seq (fun K4 hK4 => WC.sr (WL.r 3 hs3 [] rfl (WL.pO tbk 2 Acts.nil hs3 [] rfl rfl rfl rfl (fun g_ => trivial) ?_)))))))
 refine WL.r 1 hs3 [] rfl (WL.pO tbk 2 Acts.nil hs3 [] rfl rfl rfl rfl (fun g_ => trivial) (WL.r 1 hs3 [] rfl (WL.pO tbk 2 Acts.nil hs3 [] rfl rfl rfl rfl (fun g_ => trivial) (WL.r 1 hs3 [] rfl ?_))))
 apply WL.gO 4 Acts.nil hs3 rfl
 ·intro g5 J6
  have qg5 := g5
  try simp only [bf, within_iff, within_not] at qg5
  refine WL.runA tbk 4 (Acts.nil.cons (j := 14) rfl g5) hs3 [] rfl ⟨?_, trivial⟩ ?_
  · (have h9 := mul_size (w := w_) (h := h_) (by omega) (by omega); constructor <;> omega)
  exact WL.eO 4 Acts.nil J6 hs3 g5 rfl rfl
 intro _ hs7
 refine WL.nil (WC.cq rfl (fun h8 qh8 => ?_) (fun h8 qh8 => ?_))
 ·have hm : isSize w_ h_ = false := by rw [← Bool.not_eq_true, isSize_iff]; have h8 := h8; simp at h8; omega
  refine WC.sr ?_
  refine WL.val rfl rfl rfl (Run.build rfl rfl rfl rfl (built_25)) (WL.st tbk hs7 0 rfl rfl (fun _ hs9 => WL.r 1 hs9 [] rfl (WL.nil (WC.ret (tkR ?_)))))
  clear hK4
  refine retV2 rfl (resV.cellA tbk hs9 0 rfl rfl rfl rfl) (resV.tmp rfl) ?_
  rw [show isSize w_ h_ = false from hm]
  have hv : gridRes w_ h_ = grid0 := by unfold gridRes; rw [hm]; rfl
  refine ⟨⟨0, 0, ⟨none, 0, 0, []⟩⟩, _, rfl, (St.keep1 (hs9.fr ([] : Hp))), ?_, ?_⟩
  · exact (OwnF.nil _ _)
  · rw [hv]; rfl
 have hm : isSize w_ h_ = true := by rw [isSize_iff]; have h8 := h8; simp at h8; omega
 obtain ⟨hw, hh, hm1, hm2⟩ := isSize_bnd hm
 refine WC.skip (hK4 _ _ (WC.sr (WL.r 2 hs7 [] rfl ?_)))
 refine WL.val rfl rfl rfl (Run.build rfl rfl rfl rfl (built_25_0_1 _ _)) (WL.al hs7 Try.zeroValue25 rfl rfl (fun b11 _ hs12 => WL.st tbk hs12 0 rfl rfl (fun _ hs13 => WL.nil (WC.seq (fun K14 hK14 => WC.r1 hs13 [] rfl (WC.block ?_))))))
 have hM20 := (St.grp1 (L1 := ([] : Hp)) [_] (((hs13.fb b2).fr ([] : Hp)).fb b11))
 refine WC.lV [0, 1, 4, 5, 6, 27] rfl hM20 (fun k_ (a_ : Hp) f => ∃ (i : Nat) (zs : List CellD) (A16 : Option Addr) (c17 : Nat) (L18 : Hp), k_ = (w_ * h_).toNat - i ∧ a_ = [(b11, .cells (List.toArray [i64 w_, i64 h_, .slice A16 zs.length c17]) 25 (0, 0))] ++ L18 ∧ (i ≤ (w_ * h_).toNat) ∧ (zs = List.replicate i blankC) ∧ OwnF encCell 58 (.slice A16 (zs).length c17) (zs) L18 ∧ Sub [(7, .int .i64 i)] f) (((fun (i : Nat) (zs : List CellD) => (w_ * h_).toNat - i) (0) ([]))) ?_ ?_
 ·refine ⟨0, [], none, 0, ([] : Hp), rfl, rfl, ?_, ?_, (OwnF.nil _ _), ⟨rfl, trivial⟩⟩
  · omega
  · rfl
 rintro _ _ f w ⟨i, zs, A16, c17, L18, rfl, rfl, p0, p1, ho19, hG⟩ hF hs21
 refine WC.sub _ (hG.app hF) ?_
 clear hG hF
 replace hs21 := St.ungrp1 [_] hs21
 have hs22 := ((hs21.fb b2).fb b11)
 have hzl : zs.length = i := by rw [p1]; simp
 refine WC.seq (fun K23 hK23 => WC.r1 hs22 [] rfl ?_)
 refine WC.cq rfl (fun h24 qh24 => ?_) (fun h24 qh24 => ?_)
 ·refine WC.skip (hK23 _ _ (WC.seq (fun K25 hK25 => WC.block (WC.rH (hs22.d1.rm L18) hs22 (fun _ hs26 => ?_)))))
  refine WH.rn [0] (hs26.d1.rm L18) [] rfl rfl (WH.all [1, 2] (by kernel_rfl) rfl (WHs.cons (i := 1) rfl ?_ (WHs.cons (i := 2) rfl ?_ WHs.nil)))
  ·refine WL.r 1 hs26 [0] rfl (WL.nil ⟨(hs26.d1.rm L18), WH.o1 2 rfl (WL.cl Try.call46 rfl (k14_ _) ?_)⟩)
   rintro _ whs27 ⟨rfl, hs27⟩
   replace hs27 := hs26.call0 hs27
   refine ⟨_, rfl, WL.nil ⟨(hs27.d1.rm L18), WH.o1 3 rfl (WL.buildF (F := encCell) hs27 ([blankC]) Try.runUnderlying23 Try.sizeOf58 Try.zeroValue58 rfl rfl rfl rfl rfl rfl rfl rfl rfl rfl rfl rfl (fun A31 c32 L28 whs29 hs29 ho30 => ?_))⟩⟩
   replace hs29 := St.back [_, _] hs29
   refine WL.nil ⟨((hs29.d1.rm L28).rm L18), WH.o1 4 rfl (WL.appendG (hs29.fr L18) ho19 (SlF.src (SlF.ofOwn ho30 (hs29.ow L28)) Try.underlying23) Try.underlying23 inf58 rfl rfl rfl rfl rfl rfl rfl rfl rfl rfl ?_ (fun A36 c37 L33 whs34 hs34 ho35 => ?_))⟩
   · simp; omega
   replace hs34 := St.back [_, _] hs34
   refine WL.nil ⟨((hs34.d1.rm L33).rm L28), WH.rn [5] ((hs34.d1.rm L33).rm L28) [] rfl rfl (WH.o1 6 rfl (WL.st tbk hs34 0 rfl rfl (fun _ hs38 => WL.nil ⟨((hs38.d1.rm L33).rm L28), WH.dn (hK25 _ _ (WC.region ?_))⟩)))⟩
   refine WL.r 3 hs38 [] rfl (WL.nil (tkN ?_))
   replace hs38 := (hs38.rm L28)
   have hF39 := (St.grp1 (L1 := L33) [_] (((hs38.fb b2).fr L33).fb b11))
   refine ⟨sbF rfl, _, hF39, _, ?_, i + 1, _, A36, c37, L33, rfl, rfl, ?_, ?_, ho35, ⟨rfl, trivial⟩⟩
   · omega
   · omega
   · rw [p1]; exact List.replicate_succ'.symm
  refine WL.cl Try.call46 rfl (k14_ _) ?_
  rintro _ whs40 ⟨rfl, hs40⟩
  replace hs40 := hs26.call0 hs40
  refine ⟨_, rfl, WL.nil ⟨(hs40.d1.rm L18), WH.all [1, 3] (by kernel_rfl) rfl (WHs.cons (i := 1) rfl ?_ (WHs.cons (i := 3) rfl ?_ WHs.nil))⟩⟩
  ·refine WL.r 1 hs40 [0] rfl (WL.nil ⟨(hs40.d1.rm L18), WH.o1 3 rfl (WL.buildF (F := encCell) hs40 ([blankC]) Try.runUnderlying23 Try.sizeOf58 Try.zeroValue58 rfl rfl rfl rfl rfl rfl rfl rfl rfl rfl rfl rfl (fun A44 c45 L41 whs42 hs42 ho43 => ?_))⟩)
   replace hs42 := St.back [_, _] hs42
   refine WL.nil ⟨((hs42.d1.rm L41).rm L18), WH.o1 4 rfl (WL.appendG (hs42.fr L18) ho19 (SlF.src (SlF.ofOwn ho43 (hs42.ow L41)) Try.underlying23) Try.underlying23 inf58 rfl rfl rfl rfl rfl rfl rfl rfl rfl rfl ?_ (fun A49 c50 L46 whs47 hs47 ho48 => ?_))⟩
   · simp; omega
   replace hs47 := St.back [_, _] hs47
   refine WL.nil ⟨((hs47.d1.rm L46).rm L41), WH.rn [5] ((hs47.d1.rm L46).rm L41) [] rfl rfl (WH.o1 6 rfl (WL.st tbk hs47 0 rfl rfl (fun _ hs51 => WL.nil ⟨((hs51.d1.rm L46).rm L41), WH.dn (hK25 _ _ (WC.region ?_))⟩)))⟩
   refine WL.r 3 hs51 [] rfl (WL.nil (tkN ?_))
   replace hs51 := (hs51.rm L41)
   have hF52 := (St.grp1 (L1 := L46) [_] (((hs51.fb b2).fr L46).fb b11))
   refine ⟨sbF rfl, _, hF52, _, ?_, i + 1, _, A49, c50, L46, rfl, rfl, ?_, ?_, ho48, ⟨rfl, trivial⟩⟩
   · omega
   · omega
   · rw [p1]; exact List.replicate_succ'.symm
  refine WL.buildF (F := encCell) hs40 ([blankC]) Try.runUnderlying23 Try.sizeOf58 Try.zeroValue58 rfl rfl rfl rfl rfl rfl rfl rfl rfl rfl rfl rfl (fun A56 c57 L53 whs54 hs54 ho55 => ?_)
  replace hs54 := St.back [_, _] hs54
  refine WL.nil ⟨((hs54.d1.rm L53).rm L18), WH.o1 1 rfl (WL.r 1 hs54 [0] rfl (WL.nil ⟨((hs54.d1.rm L53).rm L18), WH.o1 4 rfl (WL.appendG (hs54.fr L18) ho19 (SlF.src (SlF.ofOwn ho55 (hs54.ow L53)) Try.underlying23) Try.underlying23 inf58 rfl rfl rfl rfl rfl rfl rfl rfl rfl rfl ?_ (fun A61 c62 L58 whs59 hs59 ho60 => ?_))⟩))⟩
  · simp; omega
  replace hs59 := St.back [_, _] hs59
  refine WL.nil ⟨((hs59.d1.rm L58).rm L53), WH.rn [5] ((hs59.d1.rm L58).rm L53) [] rfl rfl (WH.o1 6 rfl (WL.st tbk hs59 0 rfl rfl (fun _ hs63 => WL.nil ⟨((hs63.d1.rm L58).rm L53), WH.dn (hK25 _ _ (WC.region ?_))⟩)))⟩
  refine WL.r 3 hs63 [] rfl (WL.nil (tkN ?_))
  replace hs63 := (hs63.rm L53)
  have hF64 := (St.grp1 (L1 := L58) [_] (((hs63.fb b2).fr L58).fb b11))
  refine ⟨sbF rfl, _, hF64, _, ?_, i + 1, _, A61, c62, L58, rfl, rfl, ?_, ?_, ho60, ⟨rfl, trivial⟩⟩
  · omega
  · omega
  · rw [p1]; exact List.replicate_succ'.symm
 refine WC.exit (hK14 _ _ (WC.sr (WL.r 1 hs22 [0] rfl (WL.st tbk hs22 1 rfl rfl (fun _ hs65 => WL.r 1 hs65 [] rfl (WL.nil (WC.ret ?_)))))))
 refine retV2 rfl (resV.cellA tbk hs65 1 rfl rfl rfl rfl) (resV.tmp rfl) ?_
 rw [hm]
 have hv : gridRes w_ h_ = gridNew w_ h_ := by unfold gridRes; rw [hm]; rfl
 refine ⟨⟨w_, h_, SlD.of ho19⟩, _, rfl, (St.keep1 (hs65.fr L18)), ?_, ?_⟩
 · exact ho19
 · rw [hv]; show GridD.mk w_ h_ zs = _; rw [p1, show i = (w_ * h_).toNat by omega]; rfl
theorem k21_ (w_ : Int) (w : World) (hw : 1 ≤ w_ ∧ w_ ≤ 120) :
    Calls Try.prog 61 #[i64 w_] w fun e w' => ∃ A c L1, e = .returned (.slice A (tabsL w_).length c) ∧ St w [] L1 w' ∧ OwnF encI 3 (.slice A (tabsL w_).length c) (tabsL w_) L1 := by
 refine enter 16 Try.func61 rfl Try.ntmps61 rfl rfl ?_
 have hs1 := St.init w
 refine WC.r1 hs1 [] rfl (WC.sr (WL.buildF (F := encI) hs1 ([]) Try.runUnderlying28 Try.sizeOf3 Try.zeroValue3 rfl rfl rfl rfl rfl rfl rfl rfl rfl rfl rfl rfl (fun A5 c6 L2 whs3 hs3 ho4 => WL.r 1 hs3 [] rfl (WL.nil (WC.seq (fun K7 hK7 => WC.r1 hs3 [] rfl (WC.block ?_)))))))
 refine WC.lO [0, 2] rfl hs3 (fun k_ f L_ => ∃ (i : Nat) (A8 : Option Addr) (c9 : Nat), k_ = 121 - i ∧ (i = 0 ∨ 8 * (i : Int) < w_) ∧ (i ≤ 120) ∧ OwnF encI 3 (.slice A8 (((List.range i).map (fun i : Nat => 8 * ((i : Int) + 1))).length) c9) (((List.range i).map (fun i : Nat => 8 * ((i : Int) + 1)))) L_ ∧ Sub [(3, .slice A8 (((List.range i).map (fun i : Nat => 8 * ((i : Int) + 1))).length) c9), (4, .int .i64 (8 * ((i : Int) + 1)))] f) (((fun (i : Nat) => 121 - i) (0))) ?_ ?_
 ·refine ⟨0, _, _, rfl, ?_, ?_, ho4, ⟨?_, ?_, trivial⟩⟩
  · exact .inl rfl
  · omega
  · rfl
  · rfl
 clear hs3
 rintro _ f w L10 ⟨i, A8, c9, rfl, p0, p1, ho11, hG⟩ hF hs12
 refine WC.sub _ (hG.app hF) ?_
 clear hG hF
 have hlt : (((List.range i).map (fun i : Nat => 8 * ((i : Int) + 1)))).length = i := by simp
 refine WC.seq (fun K13 hK13 => WC.r1 hs12 [] rfl ?_)
 refine WC.cq rfl (fun h14 qh14 => ?_) (fun h14 qh14 => ?_)
 ·refine WC.skip (hK13 _ _ (WC.seq (fun K15 hK15 => WC.block (WC.region (WL.r 2 hs12 [] rfl (WL.buildSlice hs12 Try.runUnderlying28 Try.sizeOf3 Try.zeroValue3 rfl rfl rfl rfl rfl rfl rfl rfl rfl rfl (fun b16 whs17 hs17 => ?_)))))))
  refine WL.appendG (hs17.fr L10) ho11 (srcI1 Try.underlying28 (hs17.own _ (nthL_mem (i := 0) rfl)).1) Try.underlying28 inf3 rfl rfl rfl rfl rfl rfl rfl rfl rfl rfl ?_ (fun A21 c22 L18 whs19 hs19 ho20 => ?_)
  · simp; omega
  replace hs19 := St.back [_] hs19
  refine WL.r 1 hs19 [] rfl (WL.nil (hK15 _ _ (WC.region (WL.r 3 hs19 [] rfl (WL.nil (tkN ?_))))))
  replace hs19 := hs19.d1
  refine ⟨sbF rfl, _, hs19, _, ?_, i + 1, _, _, rfl, ?_, ?_, (tabsL_take (w := w_) (by omega) ▸ ho20), ⟨?_, ?_, trivial⟩⟩
  · omega
  · right; omega
  · omega
  · (rw [tabsL_take (w := w_) (i := i) (by omega)]; rfl)
  · (refine congrArg some (congrArg (Value.int _) ?_); omega)
 refine WC.exit (hK7 _ _ (WC.r1 hs12 [] rfl (WC.ret (retV1 rfl (resV.tmp rfl) ?_))))
 have hx_ := OwnF.eqOf (xs := tabsL w_) ho11 (by exact tabsL_end (by omega) p0)
 rw [← hx_]
 first | exact ⟨_, _, _, rfl, (St.keep1 hs12), ho11⟩ | exact ⟨A8, c9, _, by rw [OwnF.len_ ho11], (St.keep1 hs12), by rw [OwnF.len_ ho11]; exact ho11⟩
theorem k22_ (w_ : Int) (h_ : Int) (l : Int) (w : World) :
    Calls Try.prog 24 #[i64 w_, i64 h_, i64 l] w fun e w' => ∃ r0 L0, e = .returned (.tuple #[.agg #[i64 r0.W, i64 r0.H, i64 r0.Main.W, i64 r0.Main.H, .slice r0.Main.Cells.A r0.Main.Cells.n r0.Main.Cells.c, i64 r0.Alt.W, i64 r0.Alt.H, .slice r0.Alt.Cells.A r0.Alt.Cells.n r0.Alt.Cells.c, .bool r0.OnAlt, i64 r0.X, i64 r0.Y, .bool r0.Wrap, i64 r0.A.Fg, i64 r0.A.Bg, .bool r0.A.Bold, .bool r0.A.Under, .bool r0.A.Turn, i64 r0.Top, i64 r0.Bot, .bool r0.NoWrap, .bool r0.Hide, i64 r0.SaveX, i64 r0.SaveY, i64 r0.SaveA.Fg, i64 r0.SaveA.Bg, .bool r0.SaveA.Bold, .bool r0.SaveA.Under, .bool r0.SaveA.Turn, .slice r0.Tabs.A r0.Tabs.n r0.Tabs.c, i64 r0.Limit, .slice r0.Back.A r0.Back.n r0.Back.c], .bool (scrMay w_ h_ l)]) ∧ St w [] (L0) w' ∧ ownScrR r0 L0 ∧ r0.dat = scrRes w_ h_ l := by
 refine enter 38 Try.func24 rfl Try.ntmps24 rfl rfl ?_
 have hs1 := St.init w
 refine WC.sr (WL.al hs1 Try.zeroValue31 rfl rfl (fun b2 _ hs3 => WL.r 1 hs3 [] rfl (WL.nil (WC.sr (WL.r 2 hs3 [] rfl (WL.cl Try.call14 rfl (k20_ _ _ _) ?_))))))
 rintro _ whs4 ⟨r0_5, L0_6, rfl, hs4, ho7, hd0_8⟩
 replace hs4 := hs3.callF hs4
 refine ⟨_, rfl, ?_⟩
 replace hs4 := St.back [_] hs4
 refine WL.r 3 hs4 [] rfl (WL.al hs4 Try.zeroValue25 rfl rfl (fun b9 _ hs10 => WL.st tbk hs10 0 rfl rfl (fun _ hs11 => WL.r 1 hs11 [] rfl (WL.nil (WC.seq (fun K12 hK12 => WC.sr (WL.r 3 hs11 [] rfl ?_)))))))
 refine WL.pO tbk 2 Acts.nil hs11 [] rfl rfl rfl rfl (fun g_ => trivial) (WL.r 1 hs11 [] rfl (WL.pO tbk 2 Acts.nil hs11 [] rfl rfl rfl rfl (fun g_ => trivial) (WL.nil (WC.cq rfl (fun h13 qh13 => ?_) (fun h13 qh13 => ?_)))))
 ·have hm : scrMay w_ h_ l = false := by rw [← Bool.not_eq_true]; intro h9; unfold scrMay at h9; rw [Bool.and_eq_true, within_iff] at h9; have h8 := h13; simp [h9.1] at h8; omega
  refine WC.sr ?_
  refine WL.val rfl rfl rfl (Run.build rfl rfl rfl rfl (built_31)) (WL.st tbk hs11 1 rfl rfl (fun _ hs14 => WL.r 1 hs14 [] rfl (WL.nil (WC.ret (tkR ?_)))))
  clear hK12
  refine retV2 rfl (resV.cellA tbk hs14 1 rfl rfl rfl rfl) (resV.tmp rfl) ?_
  rw [hm]
  have hv : scrRes w_ h_ l = scr0 := by unfold scrRes; rw [hm]; rfl
  obtain ⟨L20, hs19, ho21⟩ := ownScrR.fl hs14 (OwnF.nil _ _) (OwnF.nil _ _) (OwnF.nil _ _) (OwnN.nil _ _ _)
  have hs22 := ((hs19.fb b2).fb b9)
  refine ⟨⟨0, 0, ⟨0, 0, ⟨none, 0, 0, []⟩⟩, ⟨0, 0, ⟨none, 0, 0, []⟩⟩, false, 0, 0, false, ⟨0, 0, false, false, false⟩, 0, 0, false, false, 0, 0, ⟨0, 0, false, false, false⟩, ⟨none, 0, 0, []⟩, 0, ⟨none, 0, 0, []⟩⟩, _, rfl, (St.keep1 (hs22.fr L20)), ?_, ?_⟩
  · exact (by exact ho21)
  · rw [hv]; rfl
 have hm : scrMay w_ h_ l = true := by unfold scrMay; rw [Bool.and_eq_true, within_iff]; have h8 := h13; simp at h8; exact ⟨h8.1.1, by omega⟩
 have hs : isSize w_ h_ = true := by unfold scrMay at hm; rw [Bool.and_eq_true] at hm; exact hm.1
 obtain ⟨hw, hh, hm1, hm2⟩ := isSize_bnd hs
 have hgr : gridRes w_ h_ = gridNew w_ h_ := by unfold gridRes; rw [hs]; rfl
 have hgB : smGrid 1099511627 (gridRes w_ h_) := by rw [hgr]; show (List.replicate _ _).length ≤ _; rw [List.length_replicate]; omega
 have hgB2 : smGrid 549755813888 (gridRes w_ h_) := Nat.le_trans hgB (by decide)
 refine WC.skip (hK12 _ _ (WC.seq (fun K23 hK23 => WC.rH (hs11.fb b2).d1 hs11 (fun _ hs24 => ?_))))
 refine WH.rn [0, 1, 2, 3, 5, 6, 7, 9] (hs24.fb b2).d1 [0, 0] rfl rfl (WH.o1 4 rfl ?_)
 refine WL.cl Try.call39 rfl (k19_ r0_5 _ (ownGridR.ok (B := 549755813888) ho7 (hs24.ow L0_6) (by rw [hd0_8]; assumption)) ?_) ?_
 · first | assumption | rfl | omega | (rw [hd0_8]; assumption)
 rintro _ whs25 ⟨r26, L1_27, rfl, hs25, ho28, hd29⟩
 replace hs25 := hs24.callF hs25
 refine ⟨_, rfl, ?_⟩
 replace hs25 := St.back [_, _] hs25
 refine WL.nil ⟨((hs25.fb b2).d1.rm L1_27), WH.o1 8 rfl (WL.cl Try.call61 rfl (k21_ _ _ ?_) ?_)⟩
 · first | assumption | rfl | omega | (rw [hd0_8]; assumption)
 rintro _ whs30 ⟨A31, c32, L1_33, rfl, hs30, ho34⟩
 replace hs30 := hs25.callF hs30
 refine ⟨_, rfl, ?_⟩
 replace hs30 := St.back [_, _] hs30
 refine WL.nil ⟨(((hs30.fb b2).d1.rm L1_33).rm L1_27), ?_⟩
 refine WH.take 10 rfl (by kernel_rfl) rfl rfl rfl (((hs30.fb b2).d1.rm L1_33).rm L1_27) (fun w_ hs_ => (Run.build rfl rfl rfl rfl (built_31_0_1_2_3_10_16_17 _ _ _ _ _ _ _ _ _ _ _ _ _))) ?_
 refine WH.o1 11 rfl (WL.st tbk hs30 1 rfl rfl (fun _ hs35 => WL.nil ⟨(((hs35.fb b2).d1.rm L1_33).rm L1_27), WH.rn [12] (((hs35.fb b2).d1.rm L1_33).rm L1_27) [] rfl rfl (WH.dn (hK23 _ _ (WC.ret (retV2 rfl (resV.cellA tbk hs35 1 rfl rfl rfl rfl) (resV.tmp rfl) ?_))))⟩))
 rw [hm]
 have hv : scrRes w_ h_ l = scrNew w_ h_ l := by unfold scrRes; rw [hm]; rfl
 obtain ⟨L38, hs37, ho39⟩ := ownScrR.fl hs35 ho7 ho28 ho34 (OwnN.nil _ _ _)
 have hs40 := ((hs37.fb b2).fb b9)
 refine ⟨⟨w_, h_, ⟨r0_5.W, r0_5.H, SlD.of ho7⟩, ⟨r26.W, r26.H, SlD.of ho28⟩, false, 0, 0, false, ⟨0, 0, false, false, false⟩, 0, (h_ - (1)), false, false, 0, 0, ⟨0, 0, false, false, false⟩, SlD.of ho34, l, ⟨none, 0, 0, []⟩⟩, _, rfl, (St.keep1 (hs40.fr L38)), ?_, ?_⟩
 · exact (by exact ho39)
 · rw [hv]; exact ScrD.ext' rfl rfl (hd0_8.trans hgr) (hd29.trans (hd0_8.trans hgr)) rfl rfl rfl rfl rfl rfl rfl rfl rfl rfl rfl rfl rfl rfl rfl
end Go.Proofs.Ytjmegoiclgancaa
