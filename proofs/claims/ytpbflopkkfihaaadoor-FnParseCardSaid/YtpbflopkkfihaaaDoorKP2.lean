/-
  What the proof stands on, part 2.
-/
import Derived.Test.YtpbflopkkfihaaaDoorKP1
namespace Go.Proofs.YtpbflopkkfihaaaDoor
open Go Go.RowKit
set_option linter.unusedVariables false
set_option linter.unusedSimpArgs false
class TbOk (P : Program) (tb : outParam TT) : Prop where
 ok : tb.Ok P
class Mx (P : Program) : Prop where
 ok : P.follows .mixedOrders = true
section
variable {P : Program} {tb : TT} {w0 w : World} {T : List Nat} {L : Hp} {n : Nat} {ol : List Oper} {act : List (Nat × Bool)} {K : Fr → World → Prop} {KQ : Fr → Prop} {C : World → Prop}
theorem WL.r [t : TbOk P tb] (m : Nat) (hst : St w0 T L w) (h : List Nat) {l l' : List Oper} {f f' : Fr} {S : Prop} (hr : runs tb n ol L [] m l f h True = some (l', f', S)) (k : WL P n ol l' K f' w) (hS : S := by repeat (first | exact trivial | refine ⟨by first | exact rfl | omega | exact u8_in _ | (constructor <;> omega), ?_⟩)) : WL P n ol l K f w := WL.run t.ok m hst h hr hS k
theorem WQ.r [t : TbOk P tb] (m : Nat) (h : List Nat) {l l' : List Oper} {f f' : Fr} {S : Prop} (hr : runs tb n ol L [] m l f h True = some (l', f', S)) (k : WQ P n ol l' (fun w' => St w0 T L w') KQ f') (hS : S := by repeat (first | exact trivial | refine ⟨by first | exact rfl | omega | exact u8_in _ | (constructor <;> omega), ?_⟩)) : WQ P n ol l (fun w' => St w0 T L w') KQ f := WQ.run t.ok m h hr hS k
theorem WC.r1 [t : TbOk P tb] {id : Nat} {l : List Oper} {y : Code} {Q : Kont} {f f' : Fr} {S : Prop} (hst : St w0 T L w) (h : List Nat) (hr : runs tb n l L [] l.length l f h True = some ([], f', S)) (k : WC P n y Q f' w) (hS : S := by repeat (first | exact trivial | refine ⟨by first | exact rfl | omega | exact u8_in _ | (constructor <;> omega), ?_⟩)) : WC P n (.seq (.region id l.toArray false) y) Q f w := WC.rr t.ok hst h hr hS k
theorem WC.q1 [t : TbOk P tb] [m : Mx P] {id : Nat} {l : List Oper} {y : Code} {Q : Kont} {f f' : Fr} {S : Prop} (hst : St w0 T L w) (h : List Nat) (hr : runs tb n l L [] l.length l f h True = some ([], f', S)) (k : ∀ w', St w0 T L w' → WC P n y Q f' w') (hl : Region.lexB .any l.toArray = true := by kernel_rfl) (hS : S := by repeat (first | exact trivial | refine ⟨by first | exact rfl | omega | exact u8_in _ | (constructor <;> omega), ?_⟩)) : WC P n (.seq (.region id l.toArray true) y) Q f w := WC.rq t.ok hst m.ok hl h hr hS k
theorem WC.sq1 [m : Mx P] {id : Nat} {l : List Oper} {y : Code} {Q : Kont} {f : Fr} (hst : St w0 T L w) (h : WQ P n l l (fun w' => St w0 T L w') (fun f' => ∀ w', St w0 T L w' → WC P n y Q f' w') f) (hl : Region.lexB .any l.toArray = true := by kernel_rfl) : WC P n (.seq (.region id l.toArray true) y) Q f w := WC.sq hst m.ok hl h
end
def hruns (tb : TT) (n : Nat) (ol : List Oper) (L : Hp) (act : List (Nat × Bool)) : List Nat → Fr → List Nat → Prop → Option (Fr × Prop)
 | [], f, _, S => some (f, S)
 | i :: is, f, h, S => match nthO ol i with
  | some o => (match o.dst with
   | some d => bif wantA ol act o f && Nat.blt d n && frB act f d then sv tb L o.op f h S fun v h' S' => hruns tb n ol L act is ((d, v) :: f) h' S' else none
   | none => none)
  | none => none
def setBs : List Bool → List Nat → List Bool
 | l, [] => l
 | l, i :: r => setBs (setB l i) r
def fuelB : Nat → List Nat → Option Nat
 | m, [] => some m
 | m + 1, _ :: r => fuelB m r
 | 0, _ :: _ => none
def looks (ol : List Oper) (i : Nat) : Bool := match nthO ol i with
 | some o => (match o.op with
  | .load _ _ => true
  | _ => false)
 | none => true
def takesH (ol : List Oper) : List Bool → List Nat → Bool
 | _, [] => true
 | l, i :: r => canTake ol l i && takesH ol (setB l i) r
def takesG (ol : List Oper) (k : Nat) : List Bool → List Nat → Bool
 | _, [] => true
 | l, i :: r => (takesT ol l k i || (canTake ol l i && (!Nat.beq i k && !looks ol i))) && takesG ol k (setB l i) r
theorem sv_look {β : Type} {tb : TT} {L : Hp} {op : Op} {f : Fr} {h : List Nat} {S : Prop} {k : Value → List Nat → Prop → Option β} (hn : ∀ t x, op ≠ .load t x) : sv tb L op f h S k = sv tb [] op f h S k := by
 cases op <;> first | rfl | exact absurd rfl (hn _ _)
theorem looks_no {ol : List Oper} {i : Nat} {o : Oper} (hi : nthO ol i = some o) (h : looks ol i = false) (t : TypeId) (x : Operand) : o.op ≠ .load t x := fun e => by
 unfold looks at h
 rw [hi] at h
 simp only [e] at h
 cases h
section
variable {P : Program} {tb : TT} {w0 w : World} {T : List Nat} {L : Hp} {n : Nat} {ol : List Oper} {act : List (Nat × Bool)} {K : Fr → World → Prop} {S0 : World → Prop} {k : Nat}
theorem hruns_ok (htb : tb.Ok P) : ∀ {is : List Nat} {listed : List Bool} {F fuel : Nat} {f f' : Fr} {h : List Nat} {S S' : Prop}, Acts ol act f → hruns tb n ol L act is f h S = some (f', S') → fuelB F is = some fuel → S' →
  S ∧ (takesH ol listed is = true → ∀ w, St w0 T L w → WH P n ol (fun w' => St w0 T L w') fuel (setBs listed is) K f' w → WH P n ol (fun w' => St w0 T L w') F listed K f w)
   ∧ (takesG ol k listed is = true → ∀ w, St w0 T L w → WG P n ol k (fun w' => St w0 T L w') S0 fuel (setBs listed is) K f' w → WG P n ol k (fun w' => St w0 T L w') S0 F listed K f w)
 | [], listed, F, fuel, f, f', h, S, S', ha, hr, hf, hS => by
  simp only [hruns, Option.some.injEq, Prod.mk.injEq] at hr
  obtain ⟨rfl, rfl⟩ := hr
  have : F = fuel := by cases F <;> simpa [fuelB] using hf
  subst this
  exact ⟨hS, fun _ _ _ => id, fun _ _ _ => id⟩
 | i :: is, listed, 0, fuel, f, f', h, S, S', ha, hr, hf, hS => by cases hf
 | i :: is, listed, F + 1, fuel, f, f', h, S, S', ha, hr, hf, hS => by
  unfold hruns at hr
  split at hr
  ·rename_i o hi
   split at hr
   ·rename_i d hd
    cases hc : (wantA ol act o f && Nat.blt d n && frB act f d) with
    | false => rw [hc] at hr; cases hr
    | true =>
     rw [hc] at hr
     dsimp only [cond_true] at hr
     simp only [Bool.and_eq_true] at hc
     have hw := wantA_ok ha hc.1.1
     obtain ⟨v, h', S1, hk, hv⟩ := sv_ok htb hr
     obtain ⟨h1, h2, h3⟩ := hruns_ok (listed := setB listed i) htb (frB_ok ha hc.2) hk hf hS
     obtain ⟨h5, h6⟩ := hv h1
     have hy : ∀ w, St w0 T L w → Run P o f w (.value v) w := fun w hst => h6 w (fun p hp => (hst.own p hp).1) o rfl
     refine ⟨h5, fun ht w hst kk => ?_, fun ht w hst kk => ?_⟩
     ·simp only [takesH, Bool.and_eq_true] at ht
      exact WH.take i hi ht.1 hw hd hc.1.2 hst hy (h2 ht.2 w hst kk)
     ·simp only [takesG, Bool.and_eq_true, Bool.or_eq_true, Bool.not_eq_true'] at ht
      rcases ht.1 with ht1 | ⟨ht1, ht2, ht3⟩
      ·exact WG.tk i hi ht1 hw hd hc.1.2 hst hy (h3 ht.2 w hst kk)
      ·rw [sv_look (looks_no hi ht3)] at hr
       obtain ⟨v', h'', S2, hk', hv'⟩ := sv_ok htb hr
       obtain ⟨g1, g2, g3⟩ := hruns_ok (listed := setB listed i) htb (frB_ok ha hc.2) hk' hf hS
       obtain ⟨g5, g6⟩ := hv' g1
       exact WG.takeB i hi ht1 ht2 hw hd hc.1.2 hst (fun w => g6 w (fun p hp => by cases hp) o rfl) (g3 ht.2 w hst kk)
   ·cases hr
  ·cases hr
theorem WH.rn [t : TbOk P tb] (is : List Nat) (hst : St w0 T L w) (h : List Nat) {listed : List Bool} {F fuel : Nat} {f f' : Fr} {S : Prop} (hr : hruns tb n ol L [] is f h True = some (f', S)) (hf : fuelB F is = some fuel) (kk : WH P n ol (fun w' => St w0 T L w') fuel (setBs listed is) K f' w) (hb : takesH ol listed is = true := by kernel_rfl)
  (hS : S := by repeat (first | exact trivial | refine ⟨by first | exact rfl | omega | exact u8_in _ | (constructor <;> omega), ?_⟩)) : WH P n ol (fun w' => St w0 T L w') F listed K f w :=
 (hruns_ok (k := 0) (S0 := fun _ => True) t.ok Acts.nil hr hf hS).2.1 hb w hst kk
theorem WH.rnA [t : TbOk P tb] {f : Fr} (ha : Acts ol act f) (is : List Nat) (hst : St w0 T L w) (h : List Nat) {listed : List Bool} {F fuel : Nat} {f' : Fr} {S : Prop} (hr : hruns tb n ol L act is f h True = some (f', S)) (hf : fuelB F is = some fuel) (kk : WH P n ol (fun w' => St w0 T L w') fuel (setBs listed is) K f' w) (hb : takesH ol listed is = true := by kernel_rfl)
  (hS : S := by repeat (first | exact trivial | refine ⟨by first | exact rfl | omega | exact u8_in _ | (constructor <;> omega), ?_⟩)) : WH P n ol (fun w' => St w0 T L w') F listed K f w :=
 (hruns_ok (k := 0) (S0 := fun _ => True) t.ok ha hr hf hS).2.1 hb w hst kk
theorem WG.rn [t : TbOk P tb] (is : List Nat) (hst : St w0 T L w) (h : List Nat) {listed : List Bool} {F fuel : Nat} {f f' : Fr} {S : Prop} (hr : hruns tb n ol L [] is f h True = some (f', S)) (hf : fuelB F is = some fuel) (kk : WG P n ol k (fun w' => St w0 T L w') S0 fuel (setBs listed is) K f' w) (hb : takesG ol k listed is = true := by kernel_rfl)
  (hS : S := by repeat (first | exact trivial | refine ⟨by first | exact rfl | omega | exact u8_in _ | (constructor <;> omega), ?_⟩)) : WG P n ol k (fun w' => St w0 T L w') S0 F listed K f w :=
 (hruns_ok (k := k) (S0 := S0) t.ok Acts.nil hr hf hS).2.2 hb w hst kk
theorem WG.rnA [t : TbOk P tb] {f : Fr} (ha : Acts ol act f) (is : List Nat) (hst : St w0 T L w) (h : List Nat) {listed : List Bool} {F fuel : Nat} {f' : Fr} {S : Prop} (hr : hruns tb n ol L act is f h True = some (f', S)) (hf : fuelB F is = some fuel) (kk : WG P n ol k (fun w' => St w0 T L w') S0 fuel (setBs listed is) K f' w) (hb : takesG ol k listed is = true := by kernel_rfl)
  (hS : S := by repeat (first | exact trivial | refine ⟨by first | exact rfl | omega | exact u8_in _ | (constructor <;> omega), ?_⟩)) : WG P n ol k (fun w' => St w0 T L w') S0 F listed K f w :=
 (hruns_ok (k := k) (S0 := S0) t.ok ha hr hf hS).2.2 hb w hst kk
end
section
variable {P : Program} {n : Nat} {ol : List Oper} {o : Oper} {K : Fr → World → Prop} {f : Fr} {w : World} {S S1 : World → Prop} {fuel k : Nat} {listed : List Bool}
theorem WH.o1 (i : Nat) (hi : nthO ol i = some o) (h : WL P n ol [o] (fun f' w' => S w' ∧ WH P n ol S fuel (setB listed i) K f' w') f w) (hr : Region.ready .any ol.toArray listed.toArray = [i] := by kernel_rfl) : WH P n ol S (fuel + 1) listed K f w := WH.all [i] hr rfl (WHs.cons hi h WHs.nil)
theorem WG.o1 (i : Nat) (hi : nthO ol i = some o) (hn : Nat.beq i k = false) (h : WL P n ol [o] (fun f' w' => S1 w' ∧ WG P n ol k S1 S fuel (setB listed i) K f' w') f w) (hr : Region.ready .any ol.toArray listed.toArray = [i] := by kernel_rfl) : WG P n ol k S1 S (fuel + 1) listed K f w := WG.all [i] hr rfl (WGs.cons hi hn h WGs.nil)
theorem WG.oK (hi : nthO ol k = some o) (h : WL P n ol [o] (fun f' w' => S w' ∧ WH P n ol S fuel (setB listed k) K f' w') f w) (hr : Region.ready .any ol.toArray listed.toArray = [k] := by kernel_rfl) : WG P n ol k S1 S (fuel + 1) listed K f w := WG.all [k] hr rfl (WGs.consK hi h WGs.nil)
theorem WH.dn (h : K f w) (hr : Region.ready .any ol.toArray listed.toArray = [] := by kernel_rfl) : WH P n ol S fuel listed K f w := WH.done hr h
theorem WL.n2 (h1 : S w) (h2 : WH P n ol S1 fuel listed K f w) : WL P n ol [] (fun f' w' => S w' ∧ WH P n ol S1 fuel listed K f' w') f w := WL.nil ⟨h1, h2⟩
end
section
variable {P : Program} {n : Nat} {w0 w : World} {T : List Nat} {L L0 L1 : Hp} {f : Fr}
theorem WC.rH [m : Mx P] {id : Nat} {l : List Oper} {Q : Kont} (h0 : St w0 T L0 w) (h1 : St w0 T L w) (h : ∀ w', St w0 T L w' → WH P n l (fun w' => St w0 T L0 w') l.length (List.replicate l.length false) (fun f w => Q .normal f w) f w') : WC P n (.region id l.toArray true) Q f w := WC.regionH2 _ _ m.ok h0.drew h1.drew h
theorem WC.rG [m : Mx P] {id : Nat} {l : List Oper} {Q : Kont} (k : Nat) (h0 : St w0 T L0 w) (h1 : St w0 T L1 w) (h2 : St w0 T L w) (h : ∀ w', St w0 T L w' → WG P n l k (fun w' => St w0 T L1 w') (fun w' => St w0 T L0 w') l.length (List.replicate l.length false) (fun f w => Q .normal f w) f w') : WC P n (.region id l.toArray true) Q f w := WC.regionG k _ _ _ m.ok h0.drew h1.drew h2.drew h
end
class Fr1 (X L : Hp) (R : outParam Hp) : Prop where
 pf : (X ++ R).Perm L
theorem fr1_mid {X A R L : Hp} (h : (X ++ R).Perm L) : (X ++ (A ++ R)).Perm (A ++ L) := perm_front h
instance (priority := low) fr1End {X : Hp} : Fr1 X X [] := ⟨by rw [List.append_nil]⟩
instance fr1App {X L R A : Hp} [h : Fr1 X L R] : Fr1 X (A ++ L) (A ++ R) := ⟨fr1_mid h.pf⟩
instance fr1Cons {X L R : Hp} {p : Nat × Obj} [h : Fr1 X L R] : Fr1 X (p :: L) (p :: R) := ⟨fr1_mid (A := [p]) h.pf⟩
instance (priority := high) fr1Nil {L : Hp} : Fr1 [] L L := ⟨List.Perm.refl _⟩
instance (priority := high) fr1Here {X R : Hp} : Fr1 X (X ++ R) R := ⟨List.Perm.refl _⟩
instance fr1App' {X L R A : Hp} [h : Fr1 X L R] : Fr1 X (A.append L) (A ++ R) := ⟨fr1_mid h.pf⟩
instance (priority := high) fr1Here' {X R : Hp} : Fr1 X (X.append R) R := ⟨List.Perm.refl _⟩
class FrB (b : Nat) (L : Hp) (o : outParam Obj) (R : outParam Hp) : Prop where
 pf : ((b, o) :: R).Perm L
instance frbApp {b : Nat} {o : Obj} {L R A : Hp} [h : FrB b L o R] : FrB b (A ++ L) o (A ++ R) := ⟨fr1_mid (X := [(b, o)]) h.pf⟩
instance frbCons {b : Nat} {o : Obj} {L R : Hp} {p : Nat × Obj} [h : FrB b L o R] : FrB b (p :: L) o (p :: R) := ⟨fr1_mid (X := [(b, o)]) (A := [p]) h.pf⟩
instance frbApp' {b : Nat} {o : Obj} {L R A : Hp} [h : FrB b L o R] : FrB b (A.append L) o (A ++ R) := ⟨fr1_mid (X := [(b, o)]) h.pf⟩
instance frbIn {b : Nat} {o : Obj} {L R A : Hp} {p : Nat × Obj} [h : FrB b (A ++ L) o R] : FrB b ((p :: A) ++ L) o (p :: R) := ⟨fr1_mid (X := [(b, o)]) (A := [p]) h.pf⟩
instance frbIn' {b : Nat} {o : Obj} {L R A : Hp} {p : Nat × Obj} [h : FrB b (A.append L) o R] : FrB b (List.append (p :: A) L) o (p :: R) := ⟨fr1_mid (X := [(b, o)]) (A := [p]) h.pf⟩
instance (priority := high) frbHd {b : Nat} {o : Obj} {R A : Hp} : FrB b (((b, o) :: A) ++ R) o (A ++ R) := ⟨List.Perm.refl _⟩
instance (priority := high) frbHd' {b : Nat} {o : Obj} {R A : Hp} : FrB b (List.append ((b, o) :: A) R) o (A ++ R) := ⟨List.Perm.refl _⟩
instance (priority := high) frbOne' {b : Nat} {o : Obj} {R : Hp} : FrB b (List.append [(b, o)] R) o R := ⟨List.Perm.refl _⟩
instance (priority := high) frbOne {b : Nat} {o : Obj} {R : Hp} : FrB b ([(b, o)] ++ R) o R := ⟨List.Perm.refl _⟩
instance (priority := high) frbHere {b : Nat} {o : Obj} {R : Hp} : FrB b ((b, o) :: R) o R := ⟨List.Perm.refl _⟩
section
variable {w0 w : World} {T : List Nat} {L R A B C D R1 R2 R3 R4 : Hp} {o : Obj} {p q : Nat × Obj}
theorem St.fr (h : St w0 T L w) (X : Hp) [k : Fr1 X L R] : St w0 T (X ++ R) w := h.perm k.pf
theorem St.rm (h : St w0 T L w) (X : Hp) [k : Fr1 X L R] : St w0 T R w := (h.perm k.pf).drop (sR _)
theorem St.fb (h : St w0 T L w) (b : Nat) [k : FrB b L o R] : St w0 T ((b, o) :: R) w := h.perm k.pf
theorem St.ow (h : St w0 T L w) (X : Hp) [k : Fr1 X L R] : ∀ p, p ∈ X → w.heap[p.1]? = some p.2 := fun p hp => (h.own p (k.pf.mem_iff.1 (List.mem_append_left _ hp))).1
theorem St.d1 (h : St w0 T (p :: L) w) : St w0 T L w := h.drop (List.sublist_cons_self _ _)
end
class BoolP (b : Bool) (p q : outParam Prop) : Prop where
 t : b = true → p
 f : b = false → q
instance (priority := low) boolP0 {b : Bool} : BoolP b (b = true) (b = false) := ⟨id, id⟩
instance boolPD {p : Prop} [d : Decidable p] : BoolP (decide p) p (¬ p) := ⟨of_decide_eq_true, of_decide_eq_false⟩
instance boolPN {b : Bool} {p q : Prop} [h : BoolP b p q] : BoolP (!b) q p := ⟨fun e => h.f (by simpa using e), fun e => h.t (by simpa using e)⟩
instance boolPA {a b : Bool} {p q p' q' : Prop} [h : BoolP a p q] [k : BoolP b p' q'] : BoolP (a && b) (p ∧ p') ((a && b) = false) := ⟨fun e => by rw [Bool.and_eq_true] at e; exact ⟨h.t e.1, k.t e.2⟩, id⟩
instance boolPO {a b : Bool} {p q p' q' : Prop} [h : BoolP a p q] [k : BoolP b p' q'] : BoolP (a || b) ((a || b) = true) (q ∧ q') := ⟨id, fun e => by rw [Bool.or_eq_false_iff] at e; exact ⟨h.f e.1, k.f e.2⟩⟩
section
variable {P : Program} {n : Nat} {w : World} {f : Fr}
theorem WC.cq {c : Operand} {x y : Code} {t : Bool} {p q : Prop} {Q : Kont} (hc : ev f c = some (.bool t)) [i : BoolP t p q] (hx : t = true → p → WC P n x Q f w) (hy : t = false → q → WC P n y Q f w) : WC P n (.cond c x y) Q f w :=
 WC.cond hc (fun h => hx h (i.t h)) (fun h => hy h (i.f h))
end
def rstr : List Nat → Fr → Option Fr
 | [], _ => some []
 | i :: r, f => match lk f i with
  | some v => (match rstr r f with
   | some g => some ((i, v) :: g)
   | none => none)
  | none => none
theorem rstr_ok : ∀ {is : List Nat} {f F : Fr}, rstr is f = some F → Sub F f
 | [], f, F, h => by simp only [rstr, Option.some.injEq] at h; subst h; trivial
 | i :: r, f, F, h => by
  unfold rstr at h
  split at h
  ·rename_i v hv
   split at h
   ·rename_i g hg
    simp only [Option.some.injEq] at h
    subst h
    exact ⟨hv, rstr_ok hg⟩
   ·cases h
  ·cases h
def keysF : Fr → List Nat
 | [] => []
 | (i, _) :: r => i :: keysF r
theorem sbF {F f : Fr} (h : rstr (keysF F) f = some F) : Sub F f := rstr_ok h
section
variable {P : Program} {n : Nat} {c : Code} {Q : Kont} {f : Fr} {w0 w : World} {T : List Nat} {R L L0 : Hp}
theorem WC.lV {F : Fr} {L0 : Hp} (is : List Nat) (hF : rstr is f = some F) (hst : St w0 T (L0 ++ R) w) (I : Nat → Hp → Fr → Prop) (k0 : Nat) (h0 : I k0 L0 f)
  (hr : ∀ k a f w, I k a f → Sub F f → St w0 T (a ++ R) w → WC P n c (thenK (fun f' w' => Sub F f' ∧ ∃ a', St w0 T (a' ++ R) w' ∧ ∃ k', k' < k ∧ I k' a' f') Q) f w) : WC P n (.loop c) Q f w :=
 WC.loopV (α := Hp) F (rstr_ok hF) (fun a => a) L0 hst I k0 h0 hr
theorem WC.lS {F : Fr} (is : List Nat) (hF : rstr is f = some F) (hst : St w0 T L w) (I : Nat → Fr → World → Prop) (k0 : Nat) (h0 : I k0 f w)
  (hr : ∀ k f w, I k f w → Sub F f → St w0 T L w → WC P n c (thenK (fun f' w' => Sub F f' ∧ St w0 T L w' ∧ ∃ k', k' < k ∧ I k' f' w') Q) f w) : WC P n (.loop c) Q f w :=
 WC.loopS F (rstr_ok hF) hst I k0 h0 hr
theorem WC.lO {F : Fr} (is : List Nat) (hF : rstr is f = some F) (hst : St w0 T (L0 ++ R) w) (I : Nat → Fr → Hp → Prop) (k0 : Nat) (h0 : I k0 f L0)
  (hr : ∀ k f w L, I k f L → Sub F f → St w0 T (L ++ R) w → WC P n c (thenK (fun f' w' => Sub F f' ∧ ∃ L', St w0 T (L' ++ R) w' ∧ ∃ k', k' < k ∧ I k' f' L') Q) f w) : WC P n (.loop c) Q f w :=
 WC.loopO F (rstr_ok hF) hst I k0 h0 hr
end
def clC (n : Nat) (o : Oper) (f : Fr) : Option (FuncId × List Value × Nat) :=
 match o.guard, o.dst, o.op with
 | none, some d, .call c => (match c.callee with
  | .value fo => (match ev f fo, evs f c.args.toList with
   | some (.func (.func g) ⟨[]⟩ ⟨[]⟩), some vl => bif Nat.blt d n then some (g, vl, d) else none
   | _, _ => none)
  | _ => none)
 | _, _, _ => none
section
variable {P : Program} {n : Nat} {ol rest : List Oper} {o : Oper} {K : Fr → World → Prop} {f : Fr} {w : World}
theorem WL.cl {g d : Nat} {vl : List Value} {R : Ending → World → Prop} (hf : ∀ args w, (callFunc g args).run P w = .ok (.enter g args) w) (h : clC n o f = some (g, vl, d)) (hc : Calls P g vl.toArray w R) (k : ∀ e w', R e w' → ∃ v, e = .returned v ∧ WL P n ol rest K ((d, v) :: f) w') : WL P n ol (o :: rest) K f w := by
 unfold clC at h
 split at h
 ·rename_i d' c hg hd ho
  split at h
  ·rename_i fo hcal
   split at h
   ·rename_i g' vl' hfo hvs
    cases hn : Nat.blt d' n with
    | false => rw [hn] at h; cases h
    | true =>
     rw [hn] at h
     simp only [cond_true, Option.some.injEq, Prod.mk.injEq] at h
     obtain ⟨rfl, rfl, rfl⟩ := h
     refine WL.call (want_none hg) hd hn (Run.call (ts := c.argTypes) (args := c.args) hf ?_ hfo hvs) hc k
     rw [ho]
     obtain ⟨c1, c2, c3⟩ := c
     simp only at hcal
     subst hcal
     rfl
   ·cases h
  ·cases h
 ·cases h
end
theorem St.lend1 {w0 w w' : World} {T : List Nat} {C : Hp} {b : Nat} {o o' : Obj} (h : St w0 T ([(b, o)] ++ C) w) (k : St w [b] [(b, o')] w') : St w0 T ((b, o') :: C) w' := St.lend (A := [(b, o)]) h k
def tbt1 : TT := .node .leaf 0 ⟨.other, 1, false⟩ .leaf
def tbt2 : TT := .node tbt1 3 ⟨.int .i64, 1, false⟩ .leaf
def tbt3 : TT := .node .leaf 5 ⟨.int .u8, 1, false⟩ .leaf
def tbt4 : TT := .node tbt3 9 ⟨.str, 1, false⟩ .leaf
def tbt5 : TT := .node tbt2 4 ⟨.bool, 1, false⟩ tbt4
def tbt6 : TT := .node .leaf 22 ⟨.slice 5, 1, false⟩ .leaf
def tbt7 : TT := .node tbt6 24 ⟨.slice 3, 1, false⟩ .leaf
def tbt8 : TT := .node .leaf 27 ⟨.slice 33, 1, false⟩ .leaf
def tbt9 : TT := .node tbt8 28 ⟨.other, 1, false⟩ .leaf
def tbt10 : TT := .node tbt7 26 ⟨.struct [0, 1, 2, 3], 4, true⟩ tbt9
def tbt11 : TT := .node tbt5 20 ⟨.other, 1, false⟩ tbt10
def tbt12 : TT := .node .leaf 42 ⟨.other, 1, false⟩ .leaf
def tbt13 : TT := .node tbt12 45 ⟨.struct [0, 1, 2], 3, true⟩ .leaf
def tbt14 : TT := .node .leaf 59 ⟨.other, 1, false⟩ .leaf
def tbt15 : TT := .node tbt14 61 ⟨.other, 1, false⟩ .leaf
def tbt16 : TT := .node tbt13 52 ⟨.slice 9, 1, false⟩ tbt15
def tbt17 : TT := .node .leaf 68 ⟨.struct [0, 1], 2, true⟩ .leaf
def tbt18 : TT := .node tbt17 72 ⟨.other, 1, false⟩ .leaf
def tbt19 : TT := .node .leaf 87 ⟨.other, 1, false⟩ .leaf
def tbt20 : TT := .node tbt18 79 ⟨.other, 1, false⟩ tbt19
def tbt21 : TT := .node tbt16 63 ⟨.other, 1, false⟩ tbt20
def tbt22 : TT := .node tbt11 33 ⟨.struct [0, 1, 2, 3], 4, true⟩ tbt21
theorem tbt1_ok : tbt1.Ok Tryd.prog := ⟨trivial, ⟨trivial, Tryd.sizeOf0, Tryd.isAgg0⟩, trivial⟩
theorem tbt2_ok : tbt2.Ok Tryd.prog := ⟨tbt1_ok, ⟨Tryd.runUnderlying3, Tryd.sizeOf3, Tryd.isAgg3⟩, trivial⟩
theorem tbt3_ok : tbt3.Ok Tryd.prog := ⟨trivial, ⟨Tryd.runUnderlying5, Tryd.sizeOf5, Tryd.isAgg5⟩, trivial⟩
theorem tbt4_ok : tbt4.Ok Tryd.prog := ⟨tbt3_ok, ⟨Tryd.runUnderlying9, Tryd.sizeOf9, Tryd.isAgg9⟩, trivial⟩
theorem tbt5_ok : tbt5.Ok Tryd.prog := ⟨tbt2_ok, ⟨Tryd.runUnderlying4, Tryd.sizeOf4, Tryd.isAgg4⟩, tbt4_ok⟩
theorem tbt6_ok : tbt6.Ok Tryd.prog := ⟨trivial, ⟨Tryd.runUnderlying22, Tryd.sizeOf22, Tryd.isAgg22⟩, trivial⟩
theorem tbt7_ok : tbt7.Ok Tryd.prog := ⟨tbt6_ok, ⟨Tryd.runUnderlying24, Tryd.sizeOf24, Tryd.isAgg24⟩, trivial⟩
theorem tbt8_ok : tbt8.Ok Tryd.prog := ⟨trivial, ⟨Tryd.runUnderlying27, Tryd.sizeOf27, Tryd.isAgg27⟩, trivial⟩
theorem tbt9_ok : tbt9.Ok Tryd.prog := ⟨tbt8_ok, ⟨trivial, Tryd.sizeOf28, Tryd.isAgg28⟩, trivial⟩
theorem tbt10_ok : tbt10.Ok Tryd.prog := ⟨tbt7_ok, ⟨⟨_, Tryd.runUnderlying26, rfl, ⟨⟨_, Tryd.sizeOf3, rfl⟩, ⟨⟨_, Tryd.sizeOf4, rfl⟩, ⟨⟨_, Tryd.sizeOf24, rfl⟩, ⟨⟨_, Tryd.sizeOf22, rfl⟩, trivial⟩⟩⟩⟩⟩, Tryd.sizeOf26, Tryd.isAgg26⟩, tbt9_ok⟩
theorem tbt11_ok : tbt11.Ok Tryd.prog := ⟨tbt5_ok, ⟨trivial, Tryd.sizeOf20, Tryd.isAgg20⟩, tbt10_ok⟩
theorem tbt12_ok : tbt12.Ok Tryd.prog := ⟨trivial, ⟨trivial, Tryd.sizeOf42, Tryd.isAgg42⟩, trivial⟩
theorem tbt13_ok : tbt13.Ok Tryd.prog := ⟨tbt12_ok, ⟨⟨_, Tryd.runUnderlying45, rfl, ⟨⟨_, Tryd.sizeOf22, rfl⟩, ⟨⟨_, Tryd.sizeOf3, rfl⟩, ⟨⟨_, Tryd.sizeOf3, rfl⟩, trivial⟩⟩⟩⟩, Tryd.sizeOf45, Tryd.isAgg45⟩, trivial⟩
theorem tbt14_ok : tbt14.Ok Tryd.prog := ⟨trivial, ⟨trivial, Tryd.sizeOf59, Tryd.isAgg59⟩, trivial⟩
theorem tbt15_ok : tbt15.Ok Tryd.prog := ⟨tbt14_ok, ⟨trivial, Tryd.sizeOf61, Tryd.isAgg61⟩, trivial⟩
theorem tbt16_ok : tbt16.Ok Tryd.prog := ⟨tbt13_ok, ⟨Tryd.runUnderlying52, Tryd.sizeOf52, Tryd.isAgg52⟩, tbt15_ok⟩
theorem tbt17_ok : tbt17.Ok Tryd.prog := ⟨trivial, ⟨⟨_, Tryd.runUnderlying68, rfl, ⟨⟨_, Tryd.sizeOf66, rfl⟩, ⟨⟨_, Tryd.sizeOf22, rfl⟩, trivial⟩⟩⟩, Tryd.sizeOf68, Tryd.isAgg68⟩, trivial⟩
theorem tbt18_ok : tbt18.Ok Tryd.prog := ⟨tbt17_ok, ⟨trivial, Tryd.sizeOf72, Tryd.isAgg72⟩, trivial⟩
theorem tbt19_ok : tbt19.Ok Tryd.prog := ⟨trivial, ⟨trivial, Tryd.sizeOf87, Tryd.isAgg87⟩, trivial⟩
theorem tbt20_ok : tbt20.Ok Tryd.prog := ⟨tbt18_ok, ⟨trivial, Tryd.sizeOf79, Tryd.isAgg79⟩, tbt19_ok⟩
theorem tbt21_ok : tbt21.Ok Tryd.prog := ⟨tbt16_ok, ⟨trivial, Tryd.sizeOf63, Tryd.isAgg63⟩, tbt20_ok⟩
theorem tbt22_ok : tbt22.Ok Tryd.prog := ⟨tbt11_ok, ⟨⟨_, Tryd.runUnderlying33, rfl, ⟨⟨_, Tryd.sizeOf3, rfl⟩, ⟨⟨_, Tryd.sizeOf3, rfl⟩, ⟨⟨_, Tryd.sizeOf4, rfl⟩, ⟨⟨_, Tryd.sizeOf24, rfl⟩, trivial⟩⟩⟩⟩⟩, Tryd.sizeOf33, Tryd.isAgg33⟩, tbt21_ok⟩
theorem tbk : TT.Ok Tryd.prog tbt22 := tbt22_ok
instance tbkI : TbOk Tryd.prog tbt22 := ⟨tbk⟩
instance mxI : Mx Tryd.prog := ⟨by kernel_rfl⟩
theorem mixed : Tryd.prog.follows .mixedOrders = true := by kernel_rfl
instance boolPW {n lo hi : Int} : BoolP (within n lo hi) (lo ≤ n ∧ n ≤ hi) (¬ (lo ≤ n ∧ n ≤ hi)) := ⟨within_iff.1, within_not.1⟩
theorem inf3 : Tryd.prog.info? 3 = some Tryd.t3 := by kernel_rfl
theorem k0_ (n lo hi : Int) (w : World) :
    Calls Tryd.prog 23 #[i64 n, i64 lo, i64 hi] w fun e w' => e = .returned (.bool (within n lo hi)) ∧ St w [] [] w' := by
 refine enter 15 Tryd.func23 rfl Tryd.ntmps23 rfl rfl ?_
 have hs1 := St.init w
 refine WC.r1 hs1 [] rfl (WC.sr (WL.r 4 hs1 [] rfl (WL.pA tbk 3 Acts.nil hs1 [] rfl rfl rfl rfl (fun g_ => trivial) (WL.r 1 hs1 [] rfl (WL.nil (WC.ret (retV1 rfl (resV.tmp rfl) ?_)))))))
 refine ⟨congrArg Ending.returned ?_, hs1.nil⟩
 rfl
theorem built_45_0_2 (x0 : Option Addr) (x1 : Nat) (x2 : Nat) (x3 : Int) : Tryd.prog.built 45 [(0, .slice x0 x1 x2), (2, .int .i64 x3)] = some (List.toArray [.slice x0 x1 x2, .int .i64 0, .int .i64 x3]) := by kernel_rfl
theorem k1_ (A_s : Option Addr) (n_s c_s : Nat) (s : List UInt8) (w : World) (f_s : SlF encB w A_s n_s s) (hn : n_s ≤ 1048576) :
    Calls Tryd.prog 15 #[.slice A_s n_s c_s] w fun e w' => ∃ b h, e = .returned (.pointer (some ⟨b, 0, none⟩)) ∧ St w [] [(b, Obj.cells (List.toArray [.slice A_s n_s c_s, i64 (0), i64 (h)]) 45 (0, 0))] w' := by
 have hl := f_s.len
 refine enter 32 Tryd.func15 rfl Tryd.ntmps15 rfl rfl ?_
 have hs1 := St.init w
 refine WC.r1 hs1 [] rfl (WC.r1 hs1 [] rfl (WC.seq (fun K2 hK2 => WC.r1 hs1 [] rfl (WC.block ?_))))
 refine WC.lS [0, 2] rfl hs1 (fun k_ f w' => ∃ (i : Nat) (h : Int), k_ = n_s - i ∧ (i ≤ n_s) ∧ (0 ≤ h ∧ h ≤ 1073741823) ∧ Sub [(4, .int .i64 i), (3, .int .i64 h)] f) ((fun (i : Nat) (h : Int) => n_s - i) (0) (612857 + (n_s : Int))) ?_ ?_
 ·refine ⟨0, 612857 + (n_s : Int), rfl, ?_, ?_, ⟨rfl, rfl, trivial⟩⟩
  · exact Nat.zero_le _
  · omega
 clear hs1
 rintro _ f w ⟨i, h, rfl, p0, p1, hG⟩ hF hs3
 refine WC.sub _ (hG.app hF) ?_
 clear hG hF
 refine WC.seq (fun K4 hK4 => WC.sr (WL.r 5 hs3 [] rfl (WL.pA tbk 2 Acts.nil hs3 [] rfl rfl rfl rfl (fun g_ => trivial) (WL.nil ?_))))
 refine WC.cq rfl (fun h5 qh5 => ?_) (fun h5 qh5 => ?_)
 ·have hbt := UInt8.toNat_lt (gat encB s i)
  refine WC.skip (hK4 _ _ (WC.seq (fun K6 hK6 => WC.block (WC.region (WL.r 4 hs3 [] rfl ?_)))))
  refine WL.val rfl rfl rfl (Run.idxN Tryd.runUnderlying22 Tryd.sizeOf5 rfl rfl rfl ?_ ?_ ?_) ?_
  · exact SlF.some_ (SlF.st0 f_s hs3)
  · omega
  · omega
  refine WL.val rfl rfl rfl (Run.load Tryd.isAgg5 rfl rfl (SlF.one1 (SlF.st0 f_s hs3) ?_ rfl)) ?_
  · omega
  refine WL.r 3 hs3 [] rfl (WL.val rfl rfl rfl (Run.andB rfl rfl rfl) (WL.r 1 hs3 [] rfl (WL.nil (hK6 _ _ (WC.region (WL.r 3 hs3 [] rfl (WL.nil ?_)))))))
  refine tkN (⟨sbF rfl, hs3, _, ?_, i + 1, _, rfl, ?_, ?_, ⟨rfl, rfl, trivial⟩⟩)
  · omega
  · omega
  · exact bitsAnd_mask _ (by omega) (by omega)
 refine WC.exit (hK2 _ _ (WC.sr (WL.r 2 hs3 [] rfl ?_)))
 refine WL.val rfl rfl rfl (Run.build rfl rfl rfl rfl (built_45_0_2 _ _ _ _)) (WL.bx hs3 rfl (fun b7 _ hs8 => WL.r 1 hs8 [] rfl (WL.nil (WC.ret (retV1 rfl (resV.tmp rfl) (⟨_, _, rfl, hs8⟩))))))
theorem k2_ (b_c : Nat) (A_s : Option Addr) (n_s c_s : Nat) (s : List UInt8) (i h : Int)  (w : World) (hc : w.heap[b_c]? = some (Obj.cells (List.toArray [.slice A_s n_s c_s, i64 (i), i64 (h)]) 45 (0, 0))) (f_s : SlF encB w A_s n_s s) (s_s : 0 < n_s → (adr A_s).block ∉ [b_c]) (hn : n_s ≤ 1099511627776) (hi : 0 ≤ i ∧ i ≤ n_s) :
    Calls Tryd.prog 34 #[.pointer (some ⟨b_c, 0, none⟩)] w fun e w' => ∃ r i' h', e = .returned (.int .i64 r) ∧ St w [b_c] [(b_c, Obj.cells (List.toArray [.slice A_s n_s c_s, i64 (i'), i64 (h')]) 45 (0, 0))] w' ∧ (0 ≤ r ∧ r ≤ 255) ∧ (0 ≤ i' ∧ i' ≤ n_s) := by
 have hl := f_s.len
 refine enter 58 Tryd.func34 rfl Tryd.ntmps34 rfl rfl ?_
 have hs1 := St.take1 w b_c _ hc
 refine WC.r1 hs1 [] rfl (WC.sr (WL.r 5 hs1 [0] rfl (WL.val rfl rfl rfl (Run.mulW rfl rfl rfl) (WL.val rfl rfl rfl (Run.addW rfl rfl rfl) (WL.r 2 hs1 [] rfl (WL.st tbk hs1 0 rfl rfl (fun _ hs2 => WL.nil ?_)))))))
 refine WC.sq1 hs2 (WQ.r 4 [0] rfl ?_)
 refine WQ.val rfl rfl rfl (fun w_ hs_ => (Run.shr rfl rfl rfl ?_ ?_)) ?_
 · omega
 · omega
 refine WQ.r 4 [0] rfl ?_
 refine WQ.val rfl rfl rfl (fun w_ hs_ => (Run.shr rfl rfl rfl ?_ ?_)) ?_
 · omega
 · omega
 refine WQ.val rfl rfl rfl (fun w_ hs_ => (Run.xorB rfl rfl rfl)) ?_
 refine WQ.val rfl rfl rfl (fun w_ hs_ => (Run.andB rfl rfl rfl)) ?_
 refine WQ.r 1 [] rfl (WQ.nil (fun _ (hs3 : St _ _ _ _) => WC.seq (fun K4 hK4 => WC.q1 hs3 [0, 0] rfl (fun _ hs5 => ?_))))
 refine WC.cD rfl (fun qh6 => ?_) (fun qh6 => ?_)
 ·refine WC.sq1 hs5 (WQ.r 9 [0, 0] rfl ?_)
  refine WQ.val rfl rfl rfl (fun w_ hs_ => (Run.idxK (i.toNat) Tryd.runUnderlying22 Tryd.sizeOf5 rfl rfl rfl ?_ ?_ ?_)) ?_
  · exact SlF.some_ (SlF.st f_s (hs_ : St _ _ _ _) s_s)
  · omega
  · omega
  refine WQ.val rfl rfl rfl (fun w_ hs_ => (Run.load Tryd.isAgg5 rfl rfl (SlF.one1 (SlF.st f_s (hs_ : St _ _ _ _) s_s) ?_ rfl))) ?_
  · omega
  refine WQ.r 1 [] rfl ?_
  refine WQ.val rfl rfl rfl (fun w_ hs_ => (Run.addW rfl rfl rfl)) ?_
  refine WQ.val rfl rfl rfl (fun w_ hs_ => (Run.andB rfl rfl rfl)) ?_
  refine WQ.r 1 [] rfl (WQ.nil (fun _ (hs7 : St _ _ _ _) => WC.region (WL.r 8 hs7 [0] rfl (WL.st tbk hs7 0 rfl rfl (fun _ hs8 => WL.nil (hK4 _ _ (WC.r1 hs8 [] rfl ?_)))))))
  refine WC.ret (retV1 rfl (resV.tmp rfl) (⟨_, _, _, rfl, hs8, bitsAnd_mask _ (by omega) (by omega), by omega⟩))
 refine WC.skip (hK4 _ _ (WC.r1 hs5 [] rfl (WC.ret (retV1 rfl (resV.tmp rfl) (⟨_, _, _, rfl, hs5, bitsAnd_mask _ (by omega) (by omega), by omega⟩)))))
theorem k3_ (b_c : Nat) (A_s : Option Addr) (n_s c_s : Nat) (s : List UInt8) (i h : Int) (n : Int) (w : World) (hc : w.heap[b_c]? = some (Obj.cells (List.toArray [.slice A_s n_s c_s, i64 (i), i64 (h)]) 45 (0, 0))) (f_s : SlF encB w A_s n_s s) (s_s : 0 < n_s → (adr A_s).block ∉ [b_c]) (hn : n_s ≤ 1099511627776) (hi : 0 ≤ i ∧ i ≤ n_s) :
    Calls Tryd.prog 21 #[.pointer (some ⟨b_c, 0, none⟩), i64 n] w fun e w' => ∃ r i' h', e = .returned (.int .i64 r) ∧ St w [b_c] [(b_c, Obj.cells (List.toArray [.slice A_s n_s c_s, i64 (i'), i64 (h')]) 45 (0, 0))] w' ∧ (0 ≤ r ∧ (0 < n → r < n)) ∧ (0 ≤ i' ∧ i' ≤ n_s) := by
 have hl := f_s.len
 refine enter 37 Tryd.func21 rfl Tryd.ntmps21 rfl rfl ?_
 have hs1 := St.take1 w b_c _ hc
 refine WC.r1 hs1 [] rfl (WC.seq (fun K2 hK2 => WC.r1 hs1 [] rfl ?_))
 refine WC.cD rfl (fun qh3 => ?_) (fun qh3 => ?_)
 ·refine WC.r1 hs1 [] rfl (WC.ret (tkR ?_))
  clear hK2
  refine retV1 rfl (resV.tmp rfl) (⟨_, _, _, rfl, hs1, ⟨by omega, by omega⟩, by omega⟩)
 refine WC.skip (hK2 _ _ (WC.seq (fun K4 hK4 => WC.r1 hs1 [] rfl ?_)))
 refine WC.cD rfl (fun qh5 => ?_) (fun qh5 => ?_)
 ·refine WC.sr (WL.r 1 hs1 [] rfl ?_)
  have hF6 : St _ _ ([(b_c, _)] ++ _) _ := hs1
  refine WL.call rfl rfl rfl (Run.call Tryd.call34 rfl rfl rfl) (k2_ _ _ _ _ _ _ _ _ (hF6.own _ List.mem_cons_self).1 (SlF.st f_s hs1 s_s) (St.sepT hF6 f_s s_s) ?_ ?_) ?_
  · omega
  · omega
  rintro _ whs12 ⟨r7, i8, h9, rfl, hs12, hr10, hi11⟩
  replace hs12 := St.lend1 hF6 hs12
  refine ⟨_, rfl, WL.r 1 hs12 [] rfl (WL.val rfl rfl rfl (Run.rem rfl rfl rfl ?_ ?_) ?_)⟩
  · omega
  · omega
  refine WL.r 1 hs12 [] rfl (WL.nil (WC.ret (tkR ?_)))
  clear hK4
  refine retV1 rfl (resV.tmp rfl) (⟨_, _, _, rfl, hs12, ⟨Int.emod_nonneg _ (by omega), fun h_ => Int.emod_lt_of_pos _ h_⟩, by omega⟩)
 refine WC.skip (hK4 _ _ (WC.sr (WL.r 1 hs1 [] rfl ?_)))
 have hF13 : St _ _ ([(b_c, _)] ++ _) _ := hs1
 refine WL.call rfl rfl rfl (Run.call Tryd.call34 rfl rfl rfl) (k2_ _ _ _ _ _ _ _ _ (hF13.own _ List.mem_cons_self).1 (SlF.st f_s hs1 s_s) (St.sepT hF13 f_s s_s) ?_ ?_) ?_
 · omega
 · omega
 rintro _ whs19 ⟨r14, i15, h16, rfl, hs19, hr17, hi18⟩
 replace hs19 := St.lend1 hF13 hs19
 refine ⟨_, rfl, WL.r 1 hs19 [] rfl (WL.nil (WC.sr (WL.r 1 hs19 [] rfl ?_)))⟩
 have hF20 : St _ _ ([(b_c, _)] ++ _) _ := hs19
 refine WL.call rfl rfl rfl (Run.call Tryd.call34 rfl rfl rfl) (k2_ _ _ _ _ _ _ _ _ (hF20.own _ List.mem_cons_self).1 (SlF.st f_s hs19 s_s) (St.sepT hF20 f_s s_s) ?_ ?_) ?_
 · omega
 · omega
 rintro _ whs26 ⟨r21, i22, h23, rfl, hs26, hr24, hi25⟩
 replace hs26 := St.lend1 hF20 hs26
 refine ⟨_, rfl, WL.r 1 hs26 [] rfl (WL.nil (WC.sr (WL.r 1 hs26 [] rfl ?_)))⟩
 have hF27 : St _ _ ([(b_c, _)] ++ _) _ := hs26
 refine WL.call rfl rfl rfl (Run.call Tryd.call34 rfl rfl rfl) (k2_ _ _ _ _ _ _ _ _ (hF27.own _ List.mem_cons_self).1 (SlF.st f_s hs26 s_s) (St.sepT hF27 f_s s_s) ?_ ?_) ?_
 · omega
 · omega
 rintro _ whs33 ⟨r28, i29, h30, rfl, hs33, hr31, hi32⟩
 replace hs33 := St.lend1 hF27 hs33
 refine ⟨_, rfl, WL.r 1 hs33 [] rfl (WL.nil (WC.sr (WL.r 1 hs33 [] rfl ?_)))⟩
 have hF34 : St _ _ ([(b_c, _)] ++ _) _ := hs33
 refine WL.call rfl rfl rfl (Run.call Tryd.call34 rfl rfl rfl) (k2_ _ _ _ _ _ _ _ _ (hF34.own _ List.mem_cons_self).1 (SlF.st f_s hs33 s_s) (St.sepT hF34 f_s s_s) ?_ ?_) ?_
 · omega
 · omega
 rintro _ whs40 ⟨r35, i36, h37, rfl, hs40, hr38, hi39⟩
 replace hs40 := St.lend1 hF34 hs40
 refine ⟨_, rfl, WL.r 1 hs40 [] rfl (WL.nil (WC.sr (WL.r 11 hs40 [] rfl (WL.val rfl rfl rfl (Run.rem rfl rfl rfl ?_ ?_) ?_))))⟩
 · omega
 · omega
 refine WL.r 1 hs40 [] rfl (WL.nil (WC.ret (retV1 rfl (resV.tmp rfl) (⟨_, _, _, rfl, hs40, ⟨Int.emod_nonneg _ (by omega), fun h_ => Int.emod_lt_of_pos _ h_⟩, by omega⟩))))
structure VpR where
  State : Int
  Mark : Bool
  Args : SlD Int
  Part : SlD UInt8
structure okVpR (B : Nat) (w : World) (x : VpR) : Prop where
  Args : SlF encI w x.Args.A x.Args.n x.Args.xs
  Args_c : x.Args.n ≤ x.Args.c
  Args_n : x.Args.n ≤ B
  Part : SlF encB w x.Part.A x.Part.n x.Part.xs
  Part_c : x.Part.n ≤ x.Part.c
  Part_n : x.Part.n ≤ B
structure sepVpR (T : List Nat) (x : VpR) : Prop where
  Args : 0 < x.Args.n → (adr x.Args.A).block ∉ T
  Part : 0 < x.Part.n → (adr x.Part.A).block ∉ T
theorem okVpR.st0 {B : Nat} {w0 w : World} {L : Hp} {x : VpR} (h : okVpR B w0 x) (hs : St w0 [] L w) : okVpR B w x := ⟨SlF.st0 h.Args hs, h.Args_c, h.Args_n, SlF.st0 h.Part hs, h.Part_c, h.Part_n⟩
theorem okVpR.st {B : Nat} {w0 w : World} {T : List Nat} {L : Hp} {x : VpR} (h : okVpR B w0 x) (hs : St w0 T L w) (hp : sepVpR T x) : okVpR B w x := ⟨SlF.st h.Args hs hp.Args, h.Args_c, h.Args_n, SlF.st h.Part hs hp.Part, h.Part_c, h.Part_n⟩
def VpR.dat (x : VpR) : VpD := ⟨x.State, x.Mark, x.Args.xs, x.Part.xs⟩
def smVp (B : Nat) (d : VpD) : Prop := (d.Args.length ≤ B) ∧ (d.Part.length ≤ B)
def ownVpR (x : VpR) (L : Hp) : Prop := ∃ L1 L2, L = L1 ++ L2 ∧ OwnF encI 3 (.slice x.Args.A x.Args.n x.Args.c) x.Args.xs L1 ∧ OwnF encB 5 (.slice x.Part.A x.Part.n x.Part.c) x.Part.xs L2
theorem ownVpR.fold {w0 w : World} {T : List Nat} {L1 L2 R : Hp} (x : VpR) (hs : St w0 T (L1 ++ (L2 ++ R)) w) (o1 : OwnF encI 3 (.slice x.Args.A x.Args.n x.Args.c) x.Args.xs L1) (o2 : OwnF encB 5 (.slice x.Part.A x.Part.n x.Part.c) x.Part.xs L2) : ∃ L, St w0 T (L ++ R) w ∧ ownVpR x L := ⟨L1 ++ L2, by simpa only [List.append_assoc] using hs, L1, L2, rfl, o1, o2⟩
theorem ownVpR.fl {w0 w : World} {T : List Nat} {L1 L2 L S1 S2 : Hp} [k1 : Fr1 L1 L S1] [k2 : Fr1 L2 S1 S2] {A1 : Option Addr} {n1 c1 : Nat} {x1 : _} {A2 : Option Addr} {n2 c2 : Nat} {x2 : _} (hs : St w0 T L w) (o1 : OwnF encI 3 (.slice A1 n1 c1) x1 L1) (o2 : OwnF encB 5 (.slice A2 n2 c2) x2 L2) : ∃ L', St w0 T (L' ++ S2) w ∧ ownVpR ⟨0, false, ⟨A1, n1, c1, x1⟩, ⟨A2, n2, c2, x2⟩⟩ L' := ⟨L1 ++ L2, by simpa only [List.append_assoc] using hs.perm ((List.Perm.append_left L1 k2.pf).trans k1.pf), L1, L2, rfl, o1, o2⟩
theorem ownVpR.op {w0 w : World} {T : List Nat} {L LL R : Hp} {x : VpR} [k : Fr1 LL L R] (hs : St w0 T L w) (h : ownVpR x LL) : ∃ L1 L2, St w0 T (L1 ++ (L2 ++ R)) w ∧ OwnF encI 3 (.slice x.Args.A x.Args.n x.Args.c) x.Args.xs L1 ∧ OwnF encB 5 (.slice x.Part.A x.Part.n x.Part.c) x.Part.xs L2 := by
  have hs := hs.fr LL
  obtain ⟨L1, L2, rfl, h⟩ := h
  exact ⟨L1, L2, by simpa only [List.append_assoc] using hs, h⟩
theorem ownVpR.ret {w w' : World} {K : List Nat} {L1 : Hp} {e : Ending} {D : VpD} {v0 : Int} {v1 : Bool} {A1 : Option Addr} {n1 c1 : Nat} {x1 : _} {A2 : Option Addr} {n2 c2 : Nat} {x2 : _} (he : e = .returned (.agg (List.toArray [i64 v0, .bool v1, .slice A1 n1 c1, .slice A2 n2 c2]))) (hs : St w K L1 w') (ho : ownVpR ⟨0, false, ⟨A1, n1, c1, x1⟩, ⟨A2, n2, c2, x2⟩⟩ L1) (hd : (⟨v0, v1, ⟨A1, n1, c1, x1⟩, ⟨A2, n2, c2, x2⟩⟩ : VpR).dat = D) : ∃ r L1, e = .returned (.agg #[i64 r.State, .bool r.Mark, .slice r.Args.A r.Args.n r.Args.c, .slice r.Part.A r.Part.n r.Part.c]) ∧ St w K L1 w' ∧ ownVpR r L1 ∧ r.dat = D := ⟨⟨v0, v1, ⟨A1, n1, c1, x1⟩, ⟨A2, n2, c2, x2⟩⟩, L1, he, hs, ho, hd⟩
theorem ownVpR.open_ {w0 w : World} {T : List Nat} {L R : Hp} {x : VpR} (hs : St w0 T (L ++ R) w) (h : ownVpR x L) : ∃ L1 L2, St w0 T (L1 ++ (L2 ++ R)) w ∧ OwnF encI 3 (.slice x.Args.A x.Args.n x.Args.c) x.Args.xs L1 ∧ OwnF encB 5 (.slice x.Part.A x.Part.n x.Part.c) x.Part.xs L2 := by
  obtain ⟨L1, L2, rfl, h⟩ := h
  exact ⟨L1, L2, by simpa only [List.append_assoc] using hs, h⟩
theorem ownVpR.len {x : VpR} {L : Hp} (h : ownVpR x L) : x.Args.xs.length = x.Args.n ∧ x.Part.xs.length = x.Part.n := by
  obtain ⟨L1, L2, rfl, o1, o2⟩ := h
  exact ⟨(OwnF.len_ o1), (OwnF.len_ o2)⟩
theorem ownVpR.ok {B : Nat} {w : World} {x : VpR} {L : Hp} (h : ownVpR x L) (hh : ∀ p, p ∈ L → w.heap[p.1]? = some p.2) (h2 : smVp B x.dat) : okVpR B w x := by
  obtain ⟨L1, L2, rfl, o1, o2⟩ := h
  simp only [List.mem_append] at hh
  exact ⟨SlF.ofOwn o1 (fun p hp => hh p (.inl hp)), OwnF.cap o1, (by have := OwnF.len_ o1; have h3 := h2.1; simp only [VpR.dat, smVp] at h3; omega), SlF.ofOwn o2 (fun p hp => hh p (.inr (hp))), OwnF.cap o2, (by have := OwnF.len_ o2; have h3 := h2.2; simp only [VpR.dat, smVp] at h3; omega)⟩
structure ActR where
  Kind : Int
  R : Int
  Mark : Bool
  Args : SlD Int
def encActR : Enc ActR := ⟨4, fun d => [i64 d.Kind, i64 d.R, .bool d.Mark, .slice d.Args.A d.Args.n d.Args.c], ⟨0, 0, false, ⟨none, 0, 0, []⟩⟩, fun _ => rfl, fun x v h => by simp at h; rcases h with rfl | rfl | rfl | rfl <;> rfl, by decide⟩
structure okActR (B : Nat) (w : World) (x : ActR) : Prop where
  Args : SlF encI w x.Args.A x.Args.n x.Args.xs
  Args_c : x.Args.n ≤ x.Args.c
  Args_n : x.Args.n ≤ B
structure sepActR (T : List Nat) (x : ActR) : Prop where
  Args : 0 < x.Args.n → (adr x.Args.A).block ∉ T
theorem okActR.st0 {B : Nat} {w0 w : World} {L : Hp} {x : ActR} (h : okActR B w0 x) (hs : St w0 [] L w) : okActR B w x := ⟨SlF.st0 h.Args hs, h.Args_c, h.Args_n⟩
theorem okActR.st {B : Nat} {w0 w : World} {T : List Nat} {L : Hp} {x : ActR} (h : okActR B w0 x) (hs : St w0 T L w) (hp : sepActR T x) : okActR B w x := ⟨SlF.st h.Args hs hp.Args, h.Args_c, h.Args_n⟩
def ActR.dat (x : ActR) : ActD := ⟨x.Kind, x.R, x.Mark, x.Args.xs⟩
def smAct (B : Nat) (d : ActD) : Prop := (d.Args.length ≤ B)
def ownActR (x : ActR) (L : Hp) : Prop := OwnF encI 3 (.slice x.Args.A x.Args.n x.Args.c) x.Args.xs L
theorem ownActR.len {x : ActR} {L : Hp} (h : ownActR x L) : x.Args.xs.length = x.Args.n := by
  exact (OwnF.len_ h)
theorem ownActR.ok {B : Nat} {w : World} {x : ActR} {L : Hp} (h : ownActR x L) (hh : ∀ p, p ∈ L → w.heap[p.1]? = some p.2) (h2 : smAct B x.dat) : okActR B w x := by
  exact ⟨SlF.ofOwn h (fun p hp => hh p hp), OwnF.cap h, (by have := OwnF.len_ h; have h3 := h2; simp only [ActR.dat, smAct] at h3; omega)⟩
def runeB (r : Int) : List UInt8 :=
 if shows r = false then [] else if r < 128 then [ub r] else if r < 2048 then [ub (192 + r / 64), ub (128 + r % 64)] else [ub (224 + r / 4096), ub (128 + r / 64 % 64), ub (128 + r % 64)]
theorem shows_iff {r : Int} : shows r = true ↔ (32 ≤ r ∧ r ≤ 126) ∨ (160 ≤ r ∧ r ≤ 65535 ∧ ¬ (55296 ≤ r ∧ r ≤ 57343)) := by
 simp [shows, within]; omega
theorem runeB_len (r : Int) : (runeB r).length ≤ 3 := by unfold runeB; (repeat' split) <;> simp
def tlOk (l : List UInt8) : Bool := l.all fun x => decide (x.toNat / 64 = 2)
def tlN (l : List UInt8) : Nat := l.foldl (fun n x => 64 * n + x.toNat % 64) 0
theorem tlN_take {l : List UInt8} {i : Nat} (h : i < l.length) : tlN (l.take (i + 1)) = 64 * tlN (l.take i) + (gat encB l i).toNat % 64 := by
 unfold tlN
 rw [List.take_add_one, gat_get (F := encB) h, List.foldl_append]
 rfl
theorem tlOk_take {l : List UInt8} {i : Nat} (h : i < l.length) : tlOk (l.take (i + 1)) = (tlOk (l.take i) && decide ((gat encB l i).toNat / 64 = 2)) := by
 unfold tlOk
 rw [List.take_add_one, gat_get (F := encB) h, List.all_append]
 simp
theorem tlOk_bad {l : List UInt8} {i : Nat} (h : i < l.length) (hx : (gat encB l i).toNat / 64 ≠ 2) : tlOk l = false := by
 rw [← Bool.not_eq_true]
 intro hh
 unfold tlOk at hh
 rw [List.all_eq_true] at hh
 have := hh _ (gat_mem (F := encB) h)
 simp at this
 exact hx this
def tlV (l : List UInt8) : Nat := if tlOk l = true then tlN l else 0
theorem tlN_one (x : UInt8) : tlN [x] = x.toNat % 64 := by simp [tlN]
theorem tlN_two (x y : UInt8) : tlN [x, y] = 64 * (x.toNat % 64) + y.toNat % 64 := by simp [tlN]
def rcls (a : UInt8) : Nat := if 192 ≤ a.toNat ∧ a.toNat ≤ 223 then 2 else if 224 ≤ a.toNat ∧ a.toNat ≤ 239 then 3 else 1
def cand : List UInt8 → Nat → Int
 | a :: _, 1 => a.toNat
 | a :: b :: _, 2 => ((a.toNat : Int) - 192) * 64 + b.toNat - 128
 | a :: b :: c :: _, 3 => (((a.toNat : Int) - 224) * 64 + b.toNat - 128) * 64 + c.toNat - 128
 | _, _ => 0
def rtry (l : List UInt8) (s : Nat) : Bool := decide (s ≤ l.length) && decide (runeB (cand l s) = l.take s)
def runeL (l : List UInt8) : Option (Int × Nat) :=
 if rtry l 1 = true then some (cand l 1, 1) else if rtry l 2 = true then some (cand l 2, 2) else if rtry l 3 = true then some (cand l 3, 3) else none
def rvN : Option (Int × Nat) → Int
 | none => 0
 | some x => x.1
def rvS : Option (Int × Nat) → Nat
 | none => 0
 | some x => x.2
theorem ub_eq {n : Int} {a : UInt8} (h0 : 0 ≤ n) (h1 : n < 256) : ub n = a ↔ n = a.toNat := by
 constructor
 ·rintro rfl
  rw [ub_toNat]; omega
 ·intro h
  apply u8_inj
  rw [ub_toNat]; omega
theorem rtry1 {a : UInt8} {l : List UInt8} : rtry (a :: l) 1 = true ↔ 32 ≤ a.toNat ∧ a.toNat ≤ 126 := by
 have ha := a.toNat_lt
 simp only [rtry, cand, List.length_cons, Bool.and_eq_true, decide_eq_true_eq, List.take_succ_cons, List.take_zero]
 unfold runeB
 cases hs : shows (a.toNat : Int) with
 | false =>
  have : ¬ shows (a.toNat : Int) = true := by rw [hs]; decide
  rw [shows_iff] at this
  simp; omega
 | true =>
  have := shows_iff.1 hs
  have e : ub (a.toNat : Int) = a := (ub_eq (by omega) (by omega)).2 rfl
  rw [if_neg (by decide)]
  split
  ·rw [e]; simp; omega
  ·split <;> simp <;> omega
theorem rtry2 {a b : UInt8} {l : List UInt8} : rtry (a :: b :: l) 2 = true ↔ 194 ≤ a.toNat ∧ a.toNat ≤ 223 ∧ b.toNat / 64 = 2 ∧ 160 ≤ ((a.toNat : Int) - 192) * 64 + b.toNat % 64 := by
 have ha := a.toNat_lt
 have hb := b.toNat_lt
 simp only [rtry, cand, List.length_cons, Bool.and_eq_true, decide_eq_true_eq, List.take_succ_cons, List.take_zero]
 generalize hr : ((a.toNat : Int) - 192) * 64 + b.toNat - 128 = r
 unfold runeB
 cases hs : shows r with
 | false =>
  have : ¬ shows r = true := by rw [hs]; decide
  rw [shows_iff] at this
  simp; omega
 | true =>
  have := shows_iff.1 hs
  rw [if_neg (by decide)]
  split
  ·simp; omega
  ·split
   ·simp only [List.cons.injEq, and_true]
    rw [ub_eq (by omega) (by omega), ub_eq (by omega) (by omega)]
    omega
   ·simp; omega
theorem rtry3 {a b c : UInt8} {l : List UInt8} : rtry (a :: b :: c :: l) 3 = true ↔ (224 ≤ a.toNat ∧ a.toNat ≤ 239) ∧ b.toNat / 64 = 2 ∧ c.toNat / 64 = 2 ∧ 2048 ≤ ((a.toNat : Int) - 224) * 4096 + (b.toNat % 64) * 64 + c.toNat % 64 ∧ shows (((a.toNat : Int) - 224) * 4096 + (b.toNat % 64) * 64 + c.toNat % 64) = true := by
 have ha := a.toNat_lt
 have hb := b.toNat_lt
 have hc := c.toNat_lt
 simp only [rtry, cand, List.length_cons, Bool.and_eq_true, decide_eq_true_eq, List.take_succ_cons, List.take_zero]
 generalize hr : (((a.toNat : Int) - 224) * 64 + b.toNat - 128) * 64 + c.toNat - 128 = r
 unfold runeB
 rw [shows_iff]
 cases hs : shows r with
 | false =>
  have : ¬ shows r = true := by rw [hs]; decide
  rw [shows_iff] at this
  simp; omega
 | true =>
  have := shows_iff.1 hs
  rw [if_neg (by decide)]
  split
  ·simp; omega
  ·split
   ·simp; omega
   ·simp only [List.cons.injEq, and_true]
    rw [ub_eq (by omega) (by omega), ub_eq (by omega) (by omega), ub_eq (by omega) (by omega)]
    omega
theorem rtry_len {l : List UInt8} {s : Nat} (h : l.length < s) : rtry l s = false := by
 unfold rtry
 rw [show decide (s ≤ l.length) = false from decide_eq_false (by omega)]
 rfl
theorem rtry_cls {a : UInt8} {l : List UInt8} {s : Nat} (hs : s = 1 ∨ s = 2 ∨ s = 3) (h : rtry (a :: l) s = true) : rcls a = s := by
 have ha := a.toNat_lt
 unfold rcls
 rcases hs with rfl | rfl | rfl
 ·have := rtry1.1 h
  rw [if_neg (by omega), if_neg (by omega)]
 ·cases l with
  | nil => rw [rtry_len (by simp)] at h; cases h
  | cons b r =>
   have := rtry2.1 h
   rw [if_pos (by omega)]
 ·match l, h with
  | [], h => rw [rtry_len (by simp)] at h; cases h
  | [b], h => rw [rtry_len (by simp)] at h; cases h
  | b :: c :: r, h =>
   have := rtry3.1 h
   rw [if_neg (by omega), if_pos (by omega)]
theorem rcls_or (a : UInt8) : rcls a = 1 ∨ rcls a = 2 ∨ rcls a = 3 := by
 unfold rcls
 split
 ·exact .inr (.inl rfl)
 ·split
  ·exact .inr (.inr rfl)
  ·exact .inl rfl
theorem runeL_cls {a : UInt8} {l : List UInt8} : runeL (a :: l) = if rtry (a :: l) (rcls a) = true then some (cand (a :: l) (rcls a), rcls a) else none := by
 unfold runeL
 by_cases h1 : rtry (a :: l) 1 = true
 ·rw [rtry_cls (.inl rfl) h1, if_pos h1, if_pos h1]
 ·rw [if_neg h1]
  by_cases h2 : rtry (a :: l) 2 = true
  ·rw [rtry_cls (.inr (.inl rfl)) h2, if_pos h2, if_pos h2]
  ·rw [if_neg h2]
   by_cases h3 : rtry (a :: l) 3 = true
   ·rw [rtry_cls (.inr (.inr rfl)) h3, if_pos h3]
   ·rw [if_neg h3]
    rcases rcls_or a with h | h | h <;> rw [h]
    ·rw [if_neg h1]
    ·rw [if_neg h2]
    ·rw [if_neg h3]
theorem runeL_some {l : List UInt8} {r : Int} {s : Nat} (h : runeL l = some (r, s)) : 1 ≤ s ∧ s ≤ 3 ∧ s ≤ l.length ∧ runeB r = l.take s := by
 have key : ∀ s, rtry l s = true → s ≤ l.length ∧ runeB (cand l s) = l.take s := fun s hs => by
  simpa [rtry] using hs
 unfold runeL at h
 split at h
 ·rename_i h1
  simp only [Option.some.injEq, Prod.mk.injEq] at h
  obtain ⟨rfl, rfl⟩ := h
  exact ⟨by omega, by omega, key _ h1⟩
 ·split at h
  ·rename_i h1
   simp only [Option.some.injEq, Prod.mk.injEq] at h
   obtain ⟨rfl, rfl⟩ := h
   exact ⟨by omega, by omega, key _ h1⟩
  ·split at h
   ·rename_i h1
    simp only [Option.some.injEq, Prod.mk.injEq] at h
    obtain ⟨rfl, rfl⟩ := h
    exact ⟨by omega, by omega, key _ h1⟩
   ·cases h
theorem runeL_nil : runeL [] = none := by
 unfold runeL
 rw [rtry_len (by simp), rtry_len (by simp), rtry_len (by simp)]
 simp
def runeBeg : List UInt8 → Bool
 | [a] => within a.toNat 194 239
 | [a, b] => decide (b.toNat / 64 = 2) && decide (224 ≤ a.toNat) && decide (2048 ≤ ((a.toNat : Int) - 224) * 4096 + (b.toNat % 64 : Nat) * 64) && shows (((a.toNat : Int) - 224) * 4096 + (b.toNat % 64 : Nat) * 64)
 | _ => false
theorem rvS_iff {a : UInt8} {l : List UInt8} {s : Nat} (hs : s = 2 ∨ s = 3) : rvS (runeL (a :: l)) = s ↔ rtry (a :: l) s = true := by
 rw [runeL_cls]
 have h1 := @rtry1 a l
 have h2 : rtry (a :: l) 2 = true → 194 ≤ a.toNat ∧ a.toNat ≤ 223 := by
  intro h
  cases l with
  | nil => rw [rtry_len (by simp)] at h; cases h
  | cons b r => have := rtry2.1 h; omega
 have h3 : rtry (a :: l) 3 = true → 224 ≤ a.toNat ∧ a.toNat ≤ 239 := by
  intro h
  match l with
  | [] => rw [rtry_len (by simp)] at h; cases h
  | [b] => rw [rtry_len (by simp)] at h; cases h
  | b :: c :: r => have := rtry3.1 h; omega
 constructor
 ·intro h
  split at h
  ·rename_i hh
   simp only [rvS] at h
   rw [← h]; exact hh
  ·simp only [rvS] at h; omega
 ·intro h
  have e : rcls a = s := by
   unfold rcls
   rcases hs with rfl | rfl
   ·have := h2 h
    rw [if_pos (by omega)]
   ·have := h3 h
    rw [if_neg (by omega), if_pos (by omega)]
  rw [e, if_pos h]
  rfl
def begHit (l : List UInt8) (x : UInt8) : Bool := decide (rvS (runeL (l ++ [x])) = l.length + 1) || (decide (l.length = 1) && decide (rvS (runeL (l ++ [x, 129])) = 3))
theorem beg_iff {l : List UInt8} (hl : l.length = 1 ∨ l.length = 2) : runeBeg l = true ↔ ∃ x : Nat, 128 ≤ x ∧ x < 192 ∧ begHit l (UInt8.ofNat x) = true := by
 have hof : ∀ x : Nat, x < 256 → (UInt8.ofNat x).toNat = x := fun x hx => by rw [UInt8.toNat_ofNat', Nat.mod_eq_of_lt hx]
 have h129 : (129 : UInt8).toNat = 129 := rfl
 match l, hl with
 | [a], _ =>
  have ha := a.toNat_lt
  have hb : ∀ x, begHit [a] x = true ↔ rtry [a, x] 2 = true ∨ rtry [a, x, 129] 3 = true := fun x => by
   simp only [begHit, List.length_singleton, List.singleton_append, Bool.or_eq_true, Bool.and_eq_true, decide_eq_true_eq, true_and]
   rw [← rvS_iff (.inl rfl), ← rvS_iff (.inr rfl)]
  simp only [runeBeg, within_iff]
  constructor
  ·intro h
   by_cases h2 : a.toNat ≤ 223
   ·refine ⟨191, by omega, by omega, (hb _).2 (.inl (rtry2.2 ?_))⟩
    rw [hof _ (by omega)]
    omega
   ·by_cases h3 : a.toNat = 237
    ·refine ⟨159, by omega, by omega, (hb _).2 (.inr (rtry3.2 ?_))⟩
     rw [hof _ (by omega), h129, shows_iff]
     omega
    ·refine ⟨191, by omega, by omega, (hb _).2 (.inr (rtry3.2 ?_))⟩
     rw [hof _ (by omega), h129, shows_iff]
     omega
  ·rintro ⟨x, h1, h2, h3⟩
   rcases (hb _).1 h3 with h4 | h4
   ·have := rtry2.1 h4; omega
   ·have := rtry3.1 h4; omega
 | [a, b], _ =>
  have ha := a.toNat_lt
  have hbt := b.toNat_lt
  have hb : ∀ x, begHit [a, b] x = true ↔ rtry [a, b, x] 3 = true := fun x => by
   simp only [begHit, List.length_cons, List.length_nil, List.cons_append, List.nil_append, Bool.or_eq_true, Bool.and_eq_true, decide_eq_true_eq]
   rw [← rvS_iff (.inr rfl)]
   simp
  simp only [runeBeg, Bool.and_eq_true, decide_eq_true_eq, shows_iff]
  constructor
  ·intro h
   refine ⟨128, by omega, by omega, (hb _).2 (rtry3.2 ?_)⟩
   rw [hof _ (by omega), shows_iff]
   omega
  ·rintro ⟨x, h1, h2, h3⟩
   have := rtry3.1 ((hb _).1 h3)
   rw [hof _ (by omega), shows_iff] at this
   omega
abbrev vp0 : VpD := ⟨0, false, [], []⟩
abbrev act0 : ActD := ⟨0, 0, false, []⟩
def areArgs (l : List Int) : Bool := decide (l.length ≤ 8) && l.all fun n => within n 0 9999
def vpOk (v : VpD) : Bool :=
 if v.State = 0 then (!v.Mark && decide (v.Args.length = 0)) && (decide (v.Part.length = 0) || runeBeg v.Part)
 else if v.State = 1 then (!v.Mark && decide (v.Args.length = 0)) && decide (v.Part.length = 0)
 else if v.State = 2 ∨ v.State = 3 then areArgs v.Args && decide (v.Part.length = 0) else false
def vpPlain (part : List UInt8) (b : Int) : VpD × ActD :=
 if b < 32 ∨ b = 127 then (vp0, ⟨2, b, false, []⟩) else if b < 127 then (vp0, ⟨1, b, false, []⟩)
 else if rvS (runeL (part ++ [ub b])) = (part ++ [ub b]).length then (vp0, ⟨1, rvN (runeL (part ++ [ub b])), false, []⟩)
 else if runeBeg (part ++ [ub b]) = true then (⟨0, false, [], part ++ [ub b]⟩, act0) else (vp0, ⟨1, 65533, false, []⟩)
def args1 (l : List Int) : List Int := if l.length = 0 then [0] else l
def vpDigit (v : VpD) (d : Int) : VpD := { v with Args := (args1 v.Args).set ((args1 v.Args).length - 1) (min 9999 (10 * iat (args1 v.Args) ((args1 v.Args).length - 1) + d)) }
def vpNext (v : VpD) : VpD := if (args1 v.Args).length + 1 > 8 then { v with State := 3, Args := (args1 v.Args ++ [0]).take 8 } else { v with Args := args1 v.Args ++ [0] }
def vpCsi (v : VpD) (b : Int) : VpD × ActD :=
 if (b = 63 ∧ v.Args.length = 0) ∧ v.Mark = false then ({ v with Mark := true }, act0)
 else if 48 ≤ b ∧ b ≤ 57 then (vpDigit v (b - 48), act0)
 else if b = 59 then (vpNext v, act0)
 else if 64 ≤ b ∧ b ≤ 126 then (vp0, ⟨4, b, v.Mark, v.Args⟩)
 else if b < 32 ∨ b = 127 then (v, ⟨2, b, false, []⟩)
 else ({ v with State := 3 }, act0)
def vpStep (v : VpD) (b : Int) : VpD × ActD :=
 if b = 27 then (⟨1, false, [], []⟩, act0) else if b = 24 ∨ b = 26 then (vp0, act0)
 else if v.State = 0 then vpPlain v.Part b
 else if v.State = 1 then (if b = 91 then (⟨2, false, [], []⟩, act0) else if 48 ≤ b ∧ b ≤ 126 then (vp0, ⟨3, b, false, []⟩) else (vp0, act0))
 else if v.State = 2 then vpCsi v b
 else if 64 ≤ b ∧ b ≤ 126 then (vp0, act0) else (v, act0)
def vpByte (v : VpD) (b : Int) : VpD × ActD := if vpOk v = true ∧ 0 ≤ b ∧ b ≤ 255 then vpStep v b else (vp0, act0)
theorem areArgs_iff {l : List Int} : areArgs l = true ↔ l.length ≤ 8 ∧ ∀ x, x ∈ l → 0 ≤ x ∧ x ≤ 9999 := by
 simp only [areArgs, Bool.and_eq_true, decide_eq_true_eq, List.all_eq_true, within_iff]
theorem args1_iff {l : List Int} (h : areArgs l = true) : areArgs (args1 l) = true ∧ 1 ≤ (args1 l).length := by
 unfold args1
 split
 ·exact ⟨by decide, by simp⟩
 ·exact ⟨h, by omega⟩
theorem vpDigit_ok {v : VpD} {d : Int} (h : areArgs v.Args = true) (hd : 0 ≤ d ∧ d ≤ 9) : areArgs (vpDigit v d).Args = true := by
 obtain ⟨h1, h2⟩ := args1_iff h
 rw [areArgs_iff] at h1 ⊢
 simp only [vpDigit, List.length_set]
 refine ⟨h1.1, fun x hx => ?_⟩
 rcases List.mem_or_eq_of_mem_set hx with hx | rfl
 ·exact h1.2 x hx
 ·have := h1.2 _ (gat_mem (F := encI) (show (args1 v.Args).length - 1 < (args1 v.Args).length by omega))
  have e : iat (args1 v.Args) ((args1 v.Args).length - 1) = gat encI (args1 v.Args) ((args1 v.Args).length - 1) := rfl
  rw [e]; omega
theorem vpNext_ok {v : VpD} (h : areArgs v.Args = true) : areArgs (vpNext v).Args = true := by
 obtain ⟨h1, h2⟩ := args1_iff h
 rw [areArgs_iff] at h1 ⊢
 unfold vpNext
 split
 ·refine ⟨by simp; omega, fun x hx => ?_⟩
  have := List.mem_of_mem_take hx
  rcases List.mem_append.1 this with hx | hx
  ·exact h1.2 x hx
  ·simp at hx; omega
 ·refine ⟨by simp; omega, fun x hx => ?_⟩
  rcases List.mem_append.1 hx with hx | hx
  ·exact h1.2 x hx
  ·simp at hx; omega
theorem vpOk_plain {p : List UInt8} (h : p = [] ∨ runeBeg p = true) : vpOk ⟨0, false, [], p⟩ = true := by
 unfold vpOk
 rw [if_pos rfl]
 rcases h with rfl | h
 ·rfl
 ·simp [h]
theorem vpOk_csi {v : VpD} (hs : v.State = 2 ∨ v.State = 3) : vpOk v = (areArgs v.Args && decide (v.Part.length = 0)) := by
 unfold vpOk
 rw [if_neg (by omega), if_neg (by omega), if_pos hs]
theorem vpPlain_ok {p : List UInt8} {b : Int} : vpOk (vpPlain p b).1 = true := by
 unfold vpPlain
 (repeat' split)
 ·rfl
 ·rfl
 ·rfl
 ·rename_i h; exact vpOk_plain (.inr h)
 ·rfl
theorem vpCsi_ok {v : VpD} {b : Int} (hs : v.State = 2) (h : vpOk v = true) : vpOk (vpCsi v b).1 = true := by
 have h2 := h
 rw [vpOk_csi (.inl hs), Bool.and_eq_true] at h2
 have key : ∀ v' : VpD, (v'.State = 2 ∨ v'.State = 3) → areArgs v'.Args = true → v'.Part = v.Part → vpOk v' = true := fun v' g1 g2 g3 => by
  rw [vpOk_csi g1, Bool.and_eq_true, g3]; exact ⟨g2, h2.2⟩
 unfold vpCsi
 (repeat' split)
 ·exact key _ (.inl hs) h2.1 rfl
 ·exact key _ (.inl hs) (vpDigit_ok h2.1 (by omega)) rfl
 ·refine key _ ?_ (vpNext_ok h2.1) ?_
  ·unfold vpNext; split <;> simp [hs]
  ·unfold vpNext; split <;> rfl
 ·rfl
 ·exact h
 ·exact key _ (.inr rfl) h2.1 rfl
theorem vpStep_ok {v : VpD} {b : Int} (h : vpOk v = true) : vpOk (vpStep v b).1 = true := by
 unfold vpStep
 (repeat' split)
 ·rfl
 ·rfl
 ·exact vpPlain_ok
 ·rfl
 ·rfl
 ·rfl
 ·rename_i hs; exact vpCsi_ok hs h
 ·rfl
 ·exact h
def vpParse : VpD → List UInt8 → VpD × List ActD
 | v, [] => (v, [])
 | v, x :: r => ((vpParse (vpStep v x.toNat).1 r).1, (if (vpStep v x.toNat).2.Kind = 0 then [] else [(vpStep v x.toNat).2]) ++ (vpParse (vpStep v x.toNat).1 r).2)
theorem vpParse_snoc : ∀ {l : List UInt8} {v : VpD} {x : UInt8}, vpParse v (l ++ [x]) = ((vpStep (vpParse v l).1 x.toNat).1, (vpParse v l).2 ++ (if (vpStep (vpParse v l).1 x.toNat).2.Kind = 0 then [] else [(vpStep (vpParse v l).1 x.toNat).2]))
 | [], v, x => by
  show (_, _ ++ []) = (_, [] ++ _)
  rw [List.append_nil, List.nil_append]; rfl
 | y :: r, v, x => by
  have h := vpParse_snoc (l := r) (v := (vpStep v y.toNat).1) (x := x)
  show ((vpParse _ (r ++ [x])).1, _ ++ (vpParse _ (r ++ [x])).2) = (_, (_ ++ _) ++ _)
  rw [h, List.append_assoc]; rfl
theorem vpParse_take {v : VpD} {l : List UInt8} {i : Nat} (h : i < l.length) : vpParse v (l.take (i + 1)) = ((vpStep (vpParse v (l.take i)).1 (gat encB l i).toNat).1, (vpParse v (l.take i)).2 ++ (if (vpStep (vpParse v (l.take i)).1 (gat encB l i).toNat).2.Kind = 0 then [] else [(vpStep (vpParse v (l.take i)).1 (gat encB l i).toNat).2])) := by
 rw [List.take_add_one, gat_get (F := encB) h]
 exact vpParse_snoc
theorem vpParse_ok : ∀ {l : List UInt8} {v : VpD}, vpOk v = true → vpOk (vpParse v l).1 = true
 | [], v, h => h
 | y :: r, v, h => vpParse_ok (l := r) (vpStep_ok h)
theorem vpParse_len : ∀ {l : List UInt8} {v : VpD}, (vpParse v l).2.length ≤ l.length
 | [], v => by simp [vpParse]
 | y :: r, v => by
  have h := vpParse_len (l := r) (v := (vpStep v y.toNat).1)
  simp only [vpParse, List.length_append, List.length_cons]
  split <;> simp <;> omega
theorem vpOk_len {v : VpD} (h : vpOk v = true) : v.Args.length ≤ 8 ∧ v.Part.length ≤ 2 := by
 unfold vpOk at h
 split at h
 ·simp only [Bool.and_eq_true, Bool.or_eq_true, decide_eq_true_eq] at h
  refine ⟨by omega, ?_⟩
  rcases h.2 with h2 | h2
  ·omega
  ·match hp : v.Part with
   | [] => simp
   | [a] => simp
   | [a, b] => simp
   | a :: b :: c :: r => rw [hp] at h2; cases h2
 ·split at h
  ·simp only [Bool.and_eq_true, decide_eq_true_eq] at h
   omega
  ·split at h
   ·rw [Bool.and_eq_true, areArgs_iff, decide_eq_true_eq] at h
    omega
   ·cases h
def vpBytes (v : VpD) (l : List UInt8) : VpD × List ActD := if vpOk v = true then vpParse v l else (vp0, [])
theorem tlN_bnd {l : List UInt8} (h : l.length ≤ 2) : tlN l ≤ 4095 ∧ (l.length ≤ 1 → tlN l ≤ 63) ∧ (l.length = 0 → tlN l = 0) := by
 match l, h with
 | [], _ => simp [tlN]
 | [a], _ => simp only [tlN_one, List.length_cons, List.length_nil]; omega
 | [a, b], _ => simp only [tlN_two, List.length_cons, List.length_nil]; omega
theorem tlV_bnd {l : List UInt8} (h : l.length ≤ 2) : tlV l ≤ 4095 ∧ (l.length ≤ 1 → tlV l ≤ 63) ∧ (l.length = 0 → tlV l = 0) := by
 have := tlN_bnd h
 unfold tlV; split <;> omega
def rfst (a : UInt8) (c : Nat) : Int := a.toNat - (if c = 2 then 192 else if c = 3 then 224 else 0)
def rsum (a : UInt8) (tl : List UInt8) (c : Nat) : Int := rfst a c * 64 ^ (c - 1) + tlV tl
theorem rsum_cand {a : UInt8} {l : List UInt8} {c : Nat} (hc : c = 1 ∨ c = 2 ∨ c = 3) (hl : c ≤ l.length + 1) (h : tlOk (l.take (c - 1)) = true) : cand (a :: l) c = rsum a (l.take (c - 1)) c := by
 have hv : tlV (l.take (c - 1)) = tlN (l.take (c - 1)) := by unfold tlV; rw [if_pos h]
 unfold rsum
 rw [hv]
 rcases hc with rfl | rfl | rfl
 ·simp [cand, rfst, tlN]
 ·match l, hl with
  | b :: r, _ =>
   simp only [tlOk, List.take_succ_cons, List.take_zero, List.all_cons, List.all_nil, Bool.and_true, decide_eq_true_eq] at h
   simp only [cand, rfst, List.take_succ_cons, List.take_zero, tlN_one]
   rw [show (64 : Int) ^ (2 - 1) = 64 from by decide, if_pos trivial]
   omega
 ·match l, hl with
  | b :: b2 :: r, _ =>
   simp only [tlOk, List.take_succ_cons, List.take_zero, List.all_cons, List.all_nil, Bool.and_true, decide_eq_true_eq, Bool.and_eq_true] at h
   simp only [cand, rfst, List.take_succ_cons, List.take_zero, tlN_two]
   rw [show (64 : Int) ^ (3 - 1) = 4096 from by decide, if_neg (by decide), if_pos trivial]
   omega
theorem rtry_tl {a : UInt8} {l : List UInt8} {c : Nat} (hc : c = 1 ∨ c = 2 ∨ c = 3) (h : rtry (a :: l) c = true) : tlOk (l.take (c - 1)) = true := by
 have hlen : c ≤ l.length + 1 := by
  rcases Nat.lt_or_ge (l.length + 1) c with h1 | h1
  ·rw [rtry_len (by simpa using h1)] at h; cases h
  ·exact h1
 rcases hc with rfl | rfl | rfl
 ·simp [tlOk]
 ·match l, hlen with
  | b :: r, _ =>
   have := rtry2.1 h
   simp [tlOk]; omega
 ·match l, hlen with
  | b :: b2 :: r, _ =>
   have := rtry3.1 h
   simp [tlOk]; omega
theorem runeL_rsum {a : UInt8} {l : List UInt8} {c : Nat} (hc : rcls a = c) : runeL (a :: l) = if c ≤ l.length + 1 ∧ tlOk (l.take (c - 1)) = true ∧ runeB (rsum a (l.take (c - 1)) c) = (a :: l).take c then some (rsum a (l.take (c - 1)) c, c) else none := by
 subst hc
 have ho := rcls_or a
 rw [runeL_cls]
 split
 ·rename_i h
  have h1 := rtry_tl ho h
  have h2 : rcls a ≤ (a :: l).length ∧ runeB (cand (a :: l) (rcls a)) = (a :: l).take (rcls a) := by simpa [rtry] using h
  have h3 := rsum_cand (a := a) ho h2.1 h1
  rw [if_pos ⟨h2.1, h1, by rw [← h3]; exact h2.2⟩, h3]
 ·rename_i h
  rw [if_neg]
  rintro ⟨h1, h2, h3⟩
  apply h
  have h4 := rsum_cand (a := a) ho h1 h2
  unfold rtry
  rw [h4, h3]
  simp; omega
theorem or_sum {x y : Nat} (k : Nat) (h : y < 2 ^ k) : (x * 2 ^ k) ||| y = x * 2 ^ k + y := by
 rw [Nat.mul_comm x, Nat.two_pow_add_eq_or_of_lt h]
theorem or_int {f : Int} {y : Nat} (k : Nat) (hf : 0 ≤ f) (h : y < 2 ^ k) : (((f * 2 ^ k).toNat ||| y : Nat) : Int) = f * 2 ^ k + y := by
 obtain ⟨m, rfl⟩ := Int.eq_ofNat_of_zero_le hf
 have e : (((m : Int) * 2 ^ k).toNat) = m * 2 ^ k := by
  have : ((m : Int) * 2 ^ k) = ((m * 2 ^ k : Nat) : Int) := by simp
  rw [this, Int.toNat_natCast]
 rw [e, or_sum k h]
 simp
theorem rread {b : List UInt8} {c : Nat} (hb : 1 ≤ b.length) (hc : rcls (bat b 0) = c) : runeL b = if c ≤ b.length ∧ tlOk ((b.drop 1).take (c - 1)) = true ∧ runeB (rsum (bat b 0) ((b.drop 1).take (c - 1)) c) = b.take c then some (rsum (bat b 0) ((b.drop 1).take (c - 1)) c, c) else none := by
 cases b with
 | nil => simp at hb
 | cons a l => exact runeL_rsum hc
theorem rread_yes {b : List UInt8} {c : Nat} {r : Int} (hb : 1 ≤ b.length) (hc : rcls (bat b 0) = c) (h1 : c ≤ b.length) (h2 : tlOk ((b.drop 1).take (c - 1)) = true) (hr : r = rsum (bat b 0) ((b.drop 1).take (c - 1)) c) (h3 : runeB r = b.take c) : runeL b = some (r, c) := by
 rw [rread hb hc, if_pos ⟨h1, h2, hr ▸ h3⟩, hr]
theorem rread_no {b : List UInt8} {c : Nat} (hb : 1 ≤ b.length) (hc : rcls (bat b 0) = c) (h : ∀ r : Int, r = rsum (bat b 0) ((b.drop 1).take (c - 1)) c → c ≤ b.length → tlOk ((b.drop 1).take (c - 1)) = true → runeB r = b.take c → False) : runeL b = none := by
 rw [rread hb hc, if_neg]
 rintro ⟨h1, h2, h3⟩
 exact h _ rfl h1 h2 h3
theorem p6 : ((6 : Int) * (1 - 1)).toNat = 0 ∧ ((6 : Int) * (2 - 1)).toNat = 6 ∧ ((6 : Int) * (3 - 1)).toNat = 12 := ⟨rfl, rfl, rfl⟩
theorem rsum_or {a : UInt8} {t : List UInt8} {c : Nat} {x : Int} (hc : c = 1 ∧ x = a.toNat * 2 ^ 0 ∨ c = 2 ∧ 192 ≤ a.toNat ∧ x = ((a.toNat : Int) - 192) * 2 ^ 6 ∨ c = 3 ∧ 224 ≤ a.toNat ∧ x = ((a.toNat : Int) - 224) * 2 ^ 12) (hl : t.length = c - 1) : ((x.toNat ||| ((tlV t : Nat) : Int).toNat : Nat) : Int) = rsum a t c := by
 have hb := tlV_bnd (l := t) (by omega)
 rw [Int.toNat_natCast]
 rcases hc with ⟨rfl, rfl⟩ | ⟨rfl, h1, rfl⟩ | ⟨rfl, h1, rfl⟩
 ·rw [or_int 0 (by omega) (by omega)]
  simp [rsum, rfst]
 ·rw [or_int 6 (by omega) (by omega)]
  simp [rsum, rfst]
 ·rw [or_int 12 (by omega) (by omega)]
  simp [rsum, rfst]
def candI (l : List UInt8) (s : Nat) : Nat → Int
 | 0 => (bat l 0).toNat - iat [0, 0, 192, 224] s
 | i + 1 => candI l s i * 64 + (bat l (i + 1)).toNat - 128
theorem candI_cand {l : List UInt8} {s : Nat} (h1 : 1 ≤ s) (h3 : s ≤ 3) (hl : s ≤ l.length) : candI l s (s - 1) = cand l s := by
 have : s = 1 ∨ s = 2 ∨ s = 3 := by omega
 rcases this with rfl | rfl | rfl
 ·match l, hl with
  | a :: r, _ => simp [candI, cand, gat, bat, iat]
 ·match l, hl with
  | a :: b :: r, _ => simp [candI, cand, gat, bat, iat]
 ·match l, hl with
  | a :: b :: c :: r, _ => simp [candI, cand, gat, bat, iat]
theorem candI_next {l : List UInt8} {s i : Nat} (h : 1 ≤ i) : candI l s (i + 1 - 1) = candI l s (i - 1) * 64 + (gat encB l i).toNat - 128 := by
 obtain ⟨j, rfl⟩ : ∃ j, i = j + 1 := ⟨i - 1, by omega⟩
 rfl
theorem t4_bnd (s : Nat) : 0 ≤ gat encI [0, 0, 192, 224] s ∧ gat encI [0, 0, 192, 224] s ≤ 224 := by
 match s with
 | 0 => decide
 | 1 => decide
 | 2 => decide
 | 3 => decide
 | _ + 4 => simp [iat, gat]; decide
theorem candI_bnd {l : List UInt8} {s i : Nat} (h : i ≤ 2) : -2000000 ≤ candI l s i ∧ candI l s i ≤ 2000000 := by
 have hi : 0 ≤ iat [0, 0, 192, 224] s ∧ iat [0, 0, 192, 224] s ≤ 224 := t4_bnd s
 have h0 := (bat l 0).toNat_lt
 have h1 := (bat l 1).toNat_lt
 have h2 := (bat l 2).toNat_lt
 generalize hx : iat [0, 0, 192, 224] s = x at hi
 have e0 : candI l s 0 = (bat l 0).toNat - x := by rw [← hx]; rfl
 have e1 : candI l s 1 = candI l s 0 * 64 + (bat l 1).toNat - 128 := rfl
 have e2 : candI l s 2 = candI l s 1 * 64 + (bat l 2).toNat - 128 := rfl
 have : i = 0 ∨ i = 1 ∨ i = 2 := by omega
 rcases this with rfl | rfl | rfl <;> omega
theorem rtry_iff {l : List UInt8} {s : Nat} (hl : s ≤ l.length) : (decide ((runeB (cand l s)).length = s) && decide (runeB (cand l s) = l.take s)) = rtry l s := by
 unfold rtry
 rw [show decide (s ≤ l.length) = true from decide_eq_true hl, Bool.true_and]
 by_cases h : runeB (cand l s) = l.take s
 ·rw [h]; simp [hl]
 ·simp [h]
theorem runeL_at {l : List UInt8} {s : Nat} (h : rtry l s = true) (h1 : 1 ≤ s) (h3 : s ≤ 3) (hn : ∀ t, 1 ≤ t → t < s → rtry l t = false) : runeL l = some (cand l s, s) := by
 unfold runeL
 have : s = 1 ∨ s = 2 ∨ s = 3 := by omega
 rcases this with rfl | rfl | rfl
 ·rw [if_pos h]
 ·rw [if_neg (by rw [hn 1 (by omega) (by omega)]; decide), if_pos h]
 ·rw [if_neg (by rw [hn 1 (by omega) (by omega)]; decide), if_neg (by rw [hn 2 (by omega) (by omega)]; decide), if_pos h]
theorem runeL_none {l : List UInt8} (hn : ∀ t, 1 ≤ t → t ≤ 3 → rtry l t = false) : runeL l = none := by
 unfold runeL
 rw [hn 1 (by omega) (by omega), hn 2 (by omega) (by omega), hn 3 (by omega) (by omega)]
 simp
theorem ub_nat {x : Nat} : ub (x : Int) = UInt8.ofNat x := by
 apply u8_inj
 rw [ub_toNat, UInt8.toNat_ofNat']
 omega
theorem beg_no {l : List UInt8} (hl : l.length = 1 ∨ l.length = 2) (h : ∀ x : Nat, 128 ≤ x → x < 192 → begHit l (ub x) = false) : runeBeg l = false := by
 rw [← Bool.not_eq_true, beg_iff hl]
 rintro ⟨x, h1, h2, h3⟩
 have := h x h1 h2
 rw [ub_nat, h3] at this
 cases this
theorem beg_yes {l : List UInt8} (hl : l.length = 1 ∨ l.length = 2) {x : Nat} (h1 : 128 ≤ x) (h2 : x < 192) (h : begHit l (ub x) = true) : runeBeg l = true := (beg_iff hl).2 ⟨x, h1, h2, by rwa [← ub_nat]⟩
theorem beg_len {l : List UInt8} (h : ¬ (l.length = 1 ∨ l.length = 2)) : runeBeg l = false := by
 match l, h with
 | [], _ => rfl
 | [_], h => simp at h
 | [_, _], h => simp at h
 | _ :: _ :: _ :: _, _ => rfl
theorem beg_two {b : List UInt8} (hb : b.length = 2) : (tlOk (b.drop 1) && decide (224 ≤ (((gat encB b 0).toNat : Nat) : Int)) && decide (2048 ≤ ((((gat encB b 0).toNat : Nat) : Int) - 224) * 4096 + ((tlV (b.drop 1) : Nat) : Int) * 64) && shows (((((gat encB b 0).toNat : Nat) : Int) - 224) * 4096 + ((tlV (b.drop 1) : Nat) : Int) * 64)) = runeBeg b := by
 match b, hb with
 | [x, y], _ =>
  have e1 : tlOk [y] = decide (y.toNat / 64 = 2) := by simp [tlOk]
  simp only [List.drop_succ_cons, List.drop_zero, runeBeg]
  by_cases h : y.toNat / 64 = 2
  ·have e2 : tlV [y] = y.toNat % 64 := by unfold tlV; rw [e1, if_pos (by simpa using h), tlN_one]
   rw [e1, e2]
   have e3 : gat encB [x, y] 0 = x := rfl
   rw [e3, show decide ((224 : Int) ≤ ((x.toNat : Nat) : Int)) = decide (224 ≤ x.toNat) from by simp only [decide_eq_decide]; omega]
  ·rw [e1, decide_eq_false h]; simp
theorem all_find {α : Type} {p : α → Bool} {l : List α} : (!decide (0 ≤ findI (fun x => !p x) l)) = l.all p := by
 rcases findI_cases (p := fun c => !p c) (xs := l) with ⟨h1, h2⟩ | ⟨i, hi, h1, h2, _⟩
 ·rw [h1]
  have : l.all p = true := by
   rw [List.all_eq_true]
   intro x hx
   simpa using h2 x hx
  rw [this]; decide
 ·rw [h1]
  have : l.all p = false := by
   rw [← Bool.not_eq_true]
   intro h
   rw [List.all_eq_true] at h
   have h3 := h _ (List.getElem_mem hi)
   rw [h3] at h2; cases h2
  rw [this]; simp
def vpBad (v : VpD) : Bool := ((decide (v.State < 0) || decide (3 < v.State)) || decide (8 < (v.Args.length : Int))) || (!(decide (v.State = 2) || decide (v.State = 3)) && (v.Mark || decide (0 < (v.Args.length : Int))))
theorem vpOk_bad {v : VpD} (h : vpBad v = true) : vpOk v = false := by
 rw [← Bool.not_eq_true]
 intro h2
 unfold vpOk at h2
 unfold vpBad at h
 simp only [Bool.or_eq_true, Bool.and_eq_true, decide_eq_true_eq, Bool.not_eq_true', Bool.or_eq_false_iff, decide_eq_false_iff_not] at h
 split at h2
 ·simp only [Bool.and_eq_true, Bool.not_eq_true', decide_eq_true_eq] at h2
  rcases h with ((h | h) | h) | ⟨_, h | h⟩
  ·omega
  ·omega
  ·omega
  ·rw [h2.1.1] at h; cases h
  ·omega
 ·split at h2
  ·simp only [Bool.and_eq_true, Bool.not_eq_true', decide_eq_true_eq] at h2
   rcases h with ((h | h) | h) | ⟨_, h | h⟩
   ·omega
   ·omega
   ·omega
   ·rw [h2.1.1] at h; cases h
   ·omega
  ·split at h2
   ·rw [Bool.and_eq_true, areArgs_iff] at h2
    rcases h with ((h | h) | h) | ⟨h, _⟩
    ·omega
    ·omega
    ·omega
    ·omega
   ·cases h2
theorem vpOk_arg {v : VpD} {j : Nat} (hj : j < v.Args.length) (h : within (gat encI v.Args j) 0 9999 = false) : vpOk v = false := by
 rw [← Bool.not_eq_true]
 intro h2
 unfold vpOk at h2
 split at h2
 ·simp only [Bool.and_eq_true, Bool.not_eq_true', decide_eq_true_eq] at h2; omega
 ·split at h2
  ·simp only [Bool.and_eq_true, Bool.not_eq_true', decide_eq_true_eq] at h2; omega
  ·split at h2
   ·rw [Bool.and_eq_true, areArgs_iff] at h2
    have h3 := h2.1.2 _ (gat_mem (F := encI) hj)
    rw [← within_iff, h] at h3; cases h3
   ·cases h2
theorem vpOk_end {v : VpD} (hb : vpBad v = false) (h : ∀ j, j < v.Args.length → within (gat encI v.Args j) 0 9999 = true) : vpOk v = (decide (v.Part.length = 0) || (decide (v.State = 0) && runeBeg v.Part)) := by
 unfold vpBad at hb
 simp only [Bool.or_eq_false_iff, Bool.and_eq_false_iff, decide_eq_false_iff_not, Bool.not_eq_false', Bool.or_eq_true, decide_eq_true_eq] at hb
 have ha : areArgs v.Args = true := by
  rw [areArgs_iff]
  refine ⟨by omega, fun x hx => ?_⟩
  obtain ⟨j, hj, rfl⟩ := List.mem_iff_getElem.1 hx
  have := h j hj
  rw [within_iff] at this
  have e := gat_get (F := encI) hj
  rw [List.getElem?_eq_getElem hj] at e
  rw [Option.some.inj e]; exact this
 by_cases h2 : v.State = 2 ∨ v.State = 3
 ·rw [vpOk_csi h2, ha, decide_eq_false (show ¬ v.State = 0 by omega)]; simp
 ·have h3 : v.Mark = false ∧ ¬ 0 < (v.Args.length : Int) := by
   rcases hb.2 with h4 | h4
   ·exact absurd h4 h2
   ·exact h4
  unfold vpOk
  have h0 : v.Args.length = 0 := by omega
  by_cases h5 : v.State = 0
  ·rw [if_pos h5, h3.1, decide_eq_true h0, decide_eq_true h5]; simp
  ·rw [if_neg h5, if_pos (by omega), h3.1, decide_eq_true h0, decide_eq_false h5]; simp
theorem areArgs_gat {l : List Int} {k : Nat} (h : areArgs l = true) (hk : k < l.length) : 0 ≤ gat encI l k ∧ gat encI l k ≤ 9999 := (areArgs_iff.1 h).2 _ (gat_mem (F := encI) hk)
theorem vpDigit_A {v : VpD} {d : Int} (h : v.Args.length = 0) : vpDigit v d = ⟨v.State, v.Mark, ([0] : List Int).set 0 (min 9999 (10 * gat encI [0] 0 + d)), v.Part⟩ := by unfold vpDigit args1; rw [if_pos h]; rfl
theorem vpDigit_B {v : VpD} {d : Int} (h : ¬ v.Args.length = 0) : vpDigit v d = ⟨v.State, v.Mark, v.Args.set (v.Args.length - 1) (min 9999 (10 * gat encI v.Args (v.Args.length - 1) + d)), v.Part⟩ := by unfold vpDigit args1; rw [if_neg h]
theorem vpNext_A {v : VpD} (h : v.Args.length = 0) : vpNext v = ⟨v.State, v.Mark, [0, 0], v.Part⟩ := by
 have e : args1 v.Args = [0] := if_pos h
 unfold vpNext; rw [e, if_neg (by decide)]; rfl
theorem vpNext_B {v : VpD} (h : ¬ v.Args.length = 0) (h8 : v.Args.length + 1 ≤ 8) : vpNext v = ⟨v.State, v.Mark, v.Args ++ [0], v.Part⟩ := by
 have e : args1 v.Args = v.Args := if_neg h
 unfold vpNext; rw [e, if_neg (by omega)]
theorem vpNext_C {v : VpD} (h8 : 8 < v.Args.length + 1) : vpNext v = ⟨3, v.Mark, (v.Args ++ [0]).take 8, v.Part⟩ := by
 have e : args1 v.Args = v.Args := if_neg (by omega)
 unfold vpNext; rw [e, if_pos (by omega)]
theorem vpNext_D {v : VpD} (h8 : v.Args.length = 8) : vpNext v = ⟨3, v.Mark, v.Args, v.Part⟩ := by
 rw [vpNext_C (by omega), List.take_append_of_le_length (by omega), List.take_of_length_le (by omega)]
theorem vpStep_act {v : VpD} {b : Int} (h : vpOk v = true) : (vpStep v b).2.Args.length ≤ 8 := by
 have hl := vpOk_len h
 unfold vpStep
 (repeat' split)
 ·simp
 ·simp
 ·unfold vpPlain; (repeat' split) <;> simp
 ·simp
 ·simp
 ·simp
 ·unfold vpCsi; (repeat' split) <;> simp <;> omega
 ·simp
 ·simp
theorem vpParse_act : ∀ {l : List UInt8} {v : VpD}, vpOk v = true → ∀ y, y ∈ (vpParse v l).2 → y.Args.length ≤ 8
 | [], v, h, y, hy => by cases hy
 | x :: r, v, h, y, hy => by
  simp only [vpParse, List.mem_append] at hy
  rcases hy with hy | hy
  ·split at hy
   ·cases hy
   ·rw [List.mem_singleton] at hy
    subst hy
    exact vpStep_act h
  ·exact vpParse_act (l := r) (vpStep_ok h) y hy
theorem vpCsi_args {v : VpD} {b : Int} (h : areArgs v.Args = true) : areArgs (vpCsi v b).2.Args = true := by
 unfold vpCsi
 (repeat' split)
 all_goals first | rfl | exact h
theorem vpPlain_args {p : List UInt8} {b : Int} : areArgs (vpPlain p b).2.Args = true := by
 unfold vpPlain
 (repeat' split)
 all_goals rfl
theorem vpStep_args {v : VpD} {b : Int} (h : vpOk v = true) : areArgs (vpStep v b).2.Args = true := by
 unfold vpStep
 (repeat' split)
 all_goals first
  | rfl
  | exact vpPlain_args
  | (rename_i hs _; rw [vpOk_csi (.inl hs), Bool.and_eq_true] at h; exact vpCsi_args h.1)
  | (rename_i hs; rw [vpOk_csi (.inl hs), Bool.and_eq_true] at h; exact vpCsi_args h.1)
theorem vpParse_args : ∀ {l : List UInt8} {v : VpD}, vpOk v = true → ∀ a, a ∈ (vpParse v l).2 → areArgs a.Args = true
 | [], v, _, a, ha => by cases ha
 | y :: r, v, h, a, ha => by
  simp only [vpParse, List.mem_append] at ha
  rcases ha with ha | ha
  ·split at ha
   ·cases ha
   ·rw [List.mem_singleton] at ha; rw [ha]; exact vpStep_args h
  ·exact vpParse_args (vpStep_ok h) a ha
theorem ub_self {a : UInt8} : ub (a.toNat : Int) = a := by apply u8_inj; rw [ub_toNat]; have := UInt8.toNat_lt a; omega
theorem rtry_hi {a : UInt8} {l : List UInt8} (h : 127 ≤ a.toNat) : rtry (a :: l) 1 = false := by
 rw [← Bool.not_eq_true, rtry1]; omega
theorem vpPlain_beg {p : List UInt8} {b : UInt8} (hb : 128 ≤ b.toNat) (hr : ¬ rvS (runeL (p ++ [b])) = (p ++ [b]).length) (hg : runeBeg (p ++ [b]) = true) : vpPlain p b.toNat = (⟨0, false, [], p ++ [b]⟩, act0) := by
 unfold vpPlain
 rw [ub_self, if_neg (by omega), if_neg (by omega), if_neg hr, if_pos hg]
theorem vpPlain_end {p : List UInt8} {b : UInt8} {q : Int} (hb : 128 ≤ b.toNat) (hr : runeL (p ++ [b]) = some (q, (p ++ [b]).length)) : vpPlain p b.toNat = (vp0, ⟨1, q, false, []⟩) := by
 unfold vpPlain
 rw [ub_self, if_neg (by omega), if_neg (by omega), hr]
 exact if_pos rfl
theorem vpStep_plain {p : List UInt8} {b : UInt8} (hb : 32 ≤ b.toNat) : vpStep ⟨0, false, [], p⟩ b.toNat = vpPlain p b.toNat := by
 unfold vpStep
 rw [if_neg (by omega), if_neg (by omega), if_pos rfl]
theorem runeL_one {a : UInt8} (h : 127 ≤ a.toNat) : ¬ rvS (runeL [a]) = 1 := by
 rw [runeL_none]
 ·exact fun h => by cases h
 ·intro t h1 h3
  rcases (by omega : t = 1 ∨ t = 2 ∨ t = 3) with rfl | rfl | rfl
  ·exact rtry_hi h
  ·exact rtry_len (by simp)
  ·exact rtry_len (by simp)
theorem vpParse_rune {q : Int} (h : shows q = true) : vpParse vp0 (runeB q) = (vp0, [⟨1, q, false, []⟩]) := by
 have hs := shows_iff.1 h
 unfold runeB
 rw [if_neg (by rw [h]; decide)]
 by_cases h1 : q < 128
 ·rw [if_pos h1]
  have e : ((ub q).toNat : Int) = q := by rw [ub_toNat]; omega
  have s1 : vpStep vp0 (ub q).toNat = (vp0, ⟨1, q, false, []⟩) := by
   rw [vpStep_plain (by omega), e]
   unfold vpPlain
   rw [if_neg (by omega), if_pos (by omega)]
  show ((vpParse (vpStep vp0 (ub q).toNat).1 []).1, (if (vpStep vp0 (ub q).toNat).2.Kind = 0 then [] else [(vpStep vp0 (ub q).toNat).2]) ++ (vpParse (vpStep vp0 (ub q).toNat).1 []).2) = _
  rw [s1]; rfl
 ·rw [if_neg h1]
  by_cases h2 : q < 2048
  ·rw [if_pos h2]
   have ea : ((ub (192 + q / 64)).toNat : Int) = 192 + q / 64 := by rw [ub_toNat]; omega
   have eb : ((ub (128 + q % 64)).toNat : Int) = 128 + q % 64 := by rw [ub_toNat]; omega
   have hq : runeB q = [ub (192 + q / 64), ub (128 + q % 64)] := by unfold runeB; rw [if_neg (by rw [h]; decide), if_neg h1, if_pos h2]
   generalize ub (192 + q / 64) = a at *
   generalize ub (128 + q % 64) = b at *
   have s1 : vpStep vp0 a.toNat = (⟨0, false, [], [a]⟩, act0) := by
    rw [vpStep_plain (by omega)]
    exact vpPlain_beg (p := []) (by omega) (runeL_one (by omega)) (within_iff.2 (by omega))
   have hc : cand [a, b] 2 = q := by show ((a.toNat : Int) - 192) * 64 + b.toNat - 128 = q; omega
   have hr : runeL [a, b] = some (q, 2) := by
    have := runeL_at (l := [a, b]) (s := 2) (by unfold rtry; rw [hc, hq]; simp) (by omega) (by omega) (fun t h1 h2 => by rw [show t = 1 by omega]; exact rtry_hi (by omega))
    rw [this, hc]
   have s2 : vpStep ⟨0, false, [], [a]⟩ b.toNat = (vp0, ⟨1, q, false, []⟩) := by
    rw [vpStep_plain (by omega)]
    exact vpPlain_end (p := [a]) (by omega) hr
   simp only [vpParse, s1, s2]
   rfl
  ·rw [if_neg h2]
   have ea : ((ub (224 + q / 4096)).toNat : Int) = 224 + q / 4096 := by rw [ub_toNat]; omega
   have eb : ((ub (128 + q / 64 % 64)).toNat : Int) = 128 + q / 64 % 64 := by rw [ub_toNat]; omega
   have ec : ((ub (128 + q % 64)).toNat : Int) = 128 + q % 64 := by rw [ub_toNat]; omega
   have hq : runeB q = [ub (224 + q / 4096), ub (128 + q / 64 % 64), ub (128 + q % 64)] := by unfold runeB; rw [if_neg (by rw [h]; decide), if_neg h1, if_neg h2]
   generalize ub (224 + q / 4096) = a at *
   generalize ub (128 + q / 64 % 64) = b at *
   generalize ub (128 + q % 64) = c at *
   have s1 : vpStep vp0 a.toNat = (⟨0, false, [], [a]⟩, act0) := by
    rw [vpStep_plain (by omega)]
    exact vpPlain_beg (p := []) (by omega) (runeL_one (by omega)) (within_iff.2 (by omega))
   have no2 : ∀ l, rtry (a :: b :: l) 2 = false := by
    intro l
    rw [← Bool.not_eq_true]
    intro hh
    unfold rtry at hh
    rw [Bool.and_eq_true, decide_eq_true_eq, decide_eq_true_eq] at hh
    have hl := congrArg List.length hh.2
    have hc : cand (a :: b :: l) 2 = ((a.toNat : Int) - 192) * 64 + b.toNat - 128 := rfl
    have h9 : 2048 ≤ cand (a :: b :: l) 2 := by rw [hc]; omega
    generalize cand (a :: b :: l) 2 = z at *
    unfold runeB at hl
    rw [if_neg (show ¬ z < 128 by omega), if_neg (show ¬ z < 2048 by omega)] at hl
    split at hl <;> simp at hl
   have r2 : ¬ rvS (runeL [a, b]) = 2 := by
    rw [runeL_none]
    ·exact fun h => by cases h
    ·intro t h1 h3
     rcases (by omega : t = 1 ∨ t = 2 ∨ t = 3) with rfl | rfl | rfl
     ·exact rtry_hi (by omega)
     ·exact no2 []
     ·exact rtry_len (by simp)
   have g2 : runeBeg [a, b] = true := by
    show (((decide (b.toNat / 64 = 2) && decide (224 ≤ a.toNat)) && decide (2048 ≤ ((a.toNat : Int) - 224) * 4096 + (b.toNat % 64 : Nat) * 64)) && shows (((a.toNat : Int) - 224) * 4096 + (b.toNat % 64 : Nat) * 64)) = true
    rw [Bool.and_eq_true, Bool.and_eq_true, Bool.and_eq_true, decide_eq_true_eq, decide_eq_true_eq, decide_eq_true_eq, shows_iff]
    omega
   have s2 : vpStep ⟨0, false, [], [a]⟩ b.toNat = (⟨0, false, [], [a, b]⟩, act0) := by
    rw [vpStep_plain (by omega)]
    exact vpPlain_beg (p := [a]) (by omega) r2 g2
   have hc : cand [a, b, c] 3 = q := by show (((a.toNat : Int) - 224) * 64 + b.toNat - 128) * 64 + c.toNat - 128 = q; omega
   have hr : runeL [a, b, c] = some (q, 3) := by
    have := runeL_at (l := [a, b, c]) (s := 3) (by unfold rtry; rw [hc, hq]; simp) (by omega) (by omega) (fun t h1 h2 => by
     rcases (by omega : t = 1 ∨ t = 2) with rfl | rfl
     ·exact rtry_hi (by omega)
     ·exact no2 [c])
    rw [this, hc]
   have s3 : vpStep ⟨0, false, [], [a, b]⟩ c.toNat = (vp0, ⟨1, q, false, []⟩) := by
    rw [vpStep_plain (by omega)]
    exact vpPlain_end (p := [a, b]) (by omega) hr
   simp only [vpParse, s1, s2, s3]
   rfl
theorem k4_ (b_c : Nat) (A_s : Option Addr) (n_s c_s : Nat) (s : List UInt8) (i h : Int)  (w : World) (hc : w.heap[b_c]? = some (Obj.cells (List.toArray [.slice A_s n_s c_s, i64 (i), i64 (h)]) 45 (0, 0))) (f_s : SlF encB w A_s n_s s) (s_s : 0 < n_s → (adr A_s).block ∉ [b_c]) (hn : n_s ≤ 1099511627776) (hi : 0 ≤ i ∧ i ≤ n_s) :
    Calls Tryd.prog 33 #[.pointer (some ⟨b_c, 0, none⟩)] w fun e w' => ∃ r i' h', e = .returned (.int .i64 r) ∧ St w [b_c] [(b_c, Obj.cells (List.toArray [.slice A_s n_s c_s, i64 (i'), i64 (h')]) 45 (0, 0))] w' ∧ (shows r = true) ∧ (0 ≤ i' ∧ i' ≤ n_s) := by
 have hl := f_s.len
 refine enter 21 Tryd.func33 rfl Tryd.ntmps33 rfl rfl ?_
 have hs1 := St.take1 w b_c _ hc
 refine WC.r1 hs1 [] rfl (WC.sr (WL.r 1 hs1 [] rfl ?_))
 have hF2 : St _ _ ([(b_c, _)] ++ _) _ := hs1
 refine WL.call rfl rfl rfl (Run.call Tryd.call21 rfl rfl rfl) (k3_ _ _ _ _ _ _ _ _ _ (hF2.own _ List.mem_cons_self).1 (SlF.st f_s hs1 s_s) (St.sepT hF2 f_s s_s) ?_ ?_) ?_
 · omega
 · omega
 rintro _ whs8 ⟨r3, i4, h5, rfl, hs8, hr6, hi7⟩
 replace hs8 := St.lend1 hF2 hs8
 try have hbhr6 := hr6.2 (by omega)
 refine ⟨_, rfl, WL.r 1 hs8 [] rfl (WL.nil (WC.seq (fun K9 hK9 => WC.r1 hs8 [] rfl ?_)))⟩
 refine WC.cD rfl (fun qh10 => ?_) (fun qh10 => ?_)
 ·refine WC.sr (WL.buildF (F := encI) hs8 ([97, 98, 99, 120, 49, 32, 46, 45, 233, 20013]) Tryd.runUnderlying24 Tryd.sizeOf3 Tryd.zeroValue3 rfl rfl rfl rfl rfl rfl rfl rfl rfl rfl rfl rfl (fun A14 c15 L11 whs12 hs12 ho13 => ?_))
  replace hs12 := St.back [_] hs12
  refine WL.r 1 hs12 [] rfl ?_
  have hF16 : St _ _ ([(b_c, _)] ++ _) _ := hs12
  refine WL.call rfl rfl rfl (Run.call Tryd.call21 rfl rfl rfl) (k3_ _ _ _ _ _ _ _ _ _ (hF16.own _ List.mem_cons_self).1 (SlF.st f_s hs12 s_s) (St.sepT hF16 f_s s_s) ?_ ?_) ?_
  · omega
  · omega
  rintro _ whs22 ⟨r17, i18, h19, rfl, hs22, hr20, hi21⟩
  replace hs22 := St.lend1 hF16 hs22
  try have hbhr20 := hr20.2 (by omega)
  refine ⟨_, rfl, WL.val rfl rfl rfl (Run.idxK (r17.toNat) Tryd.runUnderlying24 Tryd.sizeOf3 rfl rfl rfl ?_ ?_ ?_) ?_⟩
  · exact SlF.some_ (SlF.ofOwn ho13 (hs22.ow L11))
  · first | omega | (show _ < 10; omega)
  · first | omega | (show _ < 10; omega)
  refine WL.val rfl rfl rfl (Run.load Tryd.isAgg3 rfl rfl (SlF.one1 (SlF.ofOwn ho13 (hs22.ow L11)) ?_ rfl)) ?_
  · first | omega | (show _ < 10; omega)
  refine WL.r 1 hs22 [] rfl (WL.nil (WC.ret (tkR ?_)))
  clear hK9
  refine retV1 rfl (resV.tmp rfl) ?_
  have hq := gat_mem (F := encI) (xs := [97, 98, 99, 120, 49, 32, 46, 45, 233, 20013]) (k := r17.toNat) (by show _ < 10; omega)
  refine ⟨_, _, _, rfl, (hs22.rm L11), ?_, by omega⟩
  · revert hq; generalize gat encI [97, 98, 99, 120, 49, 32, 46, 45, 233, 20013] r17.toNat = q; intro hq; simp only [List.mem_cons, List.not_mem_nil, or_false] at hq; rcases hq with rfl | rfl | rfl | rfl | rfl | rfl | rfl | rfl | rfl | rfl <;> decide
 refine WC.skip (hK9 _ _ (WC.seq (fun K23 hK23 => WC.r1 hs8 [] rfl ?_)))
 refine WC.cD rfl (fun qh24 => ?_) (fun qh24 => ?_)
 ·refine WC.sr (WL.r 1 hs8 [] rfl ?_)
  have hF25 : St _ _ ([(b_c, _)] ++ _) _ := hs8
  refine WL.call rfl rfl rfl (Run.call Tryd.call21 rfl rfl rfl) (k3_ _ _ _ _ _ _ _ _ _ (hF25.own _ List.mem_cons_self).1 (SlF.st f_s hs8 s_s) (St.sepT hF25 f_s s_s) ?_ ?_) ?_
  · omega
  · omega
  rintro _ whs31 ⟨r26, i27, h28, rfl, hs31, hr29, hi30⟩
  replace hs31 := St.lend1 hF25 hs31
  try have hbhr29 := hr29.2 (by omega)
  refine ⟨_, rfl, WL.r 2 hs31 [] rfl (WL.nil (WC.ret (tkR ?_)))⟩
  clear hK23
  refine retV1 rfl (resV.tmp rfl) ?_
  exact ⟨_, _, _, rfl, hs31, by simp only [shows, Bool.or_eq_true, Bool.and_eq_true, Bool.not_eq_true', within_iff, within_not]; omega, by omega⟩
 refine WC.skip (hK23 _ _ (WC.sr (WL.r 1 hs8 [] rfl ?_)))
 have hF32 : St _ _ ([(b_c, _)] ++ _) _ := hs8
 refine WL.call rfl rfl rfl (Run.call Tryd.call21 rfl rfl rfl) (k3_ _ _ _ _ _ _ _ _ _ (hF32.own _ List.mem_cons_self).1 (SlF.st f_s hs8 s_s) (St.sepT hF32 f_s s_s) ?_ ?_) ?_
 · omega
 · omega
 rintro _ whs38 ⟨r33, i34, h35, rfl, hs38, hr36, hi37⟩
 replace hs38 := St.lend1 hF32 hs38
 try have hbhr36 := hr36.2 (by omega)
 refine ⟨_, rfl, WL.r 2 hs38 [] rfl (WL.nil (WC.ret (retV1 rfl (resV.tmp rfl) ?_)))⟩
 exact ⟨_, _, _, rfl, hs38, by simp only [shows, Bool.or_eq_true, Bool.and_eq_true, Bool.not_eq_true', within_iff, within_not]; omega, by omega⟩
theorem k5_ (n : Int) (w : World) :
    Calls Tryd.prog 38 #[i64 n] w fun e w' => e = .returned (.bool (shows n)) ∧ St w [] [] w' := by
 refine enter 14 Tryd.func38 rfl Tryd.ntmps38 rfl rfl ?_
 have hs1 := St.init w
 refine WC.r1 hs1 [] rfl (WC.sr (WL.r 1 hs1 [] rfl (WL.cl Tryd.call23 rfl (k0_ _ _ _ _) ?_)))
 rintro _ whs2 ⟨rfl, hs2⟩
 replace hs2 := hs1.call0 hs2
 refine ⟨_, rfl, WL.r 1 hs2 [] rfl ?_⟩
 apply WL.gO 7 Acts.nil hs2 rfl
 ·intro g3 J4
  have qg3 := g3
  try simp only [bf, within_iff, within_not] at qg3
  refine WL.runA tbk 1 (Acts.nil.cons (j := 2) rfl g3) hs2 [] rfl trivial (WL.call (wantF rfl g3) rfl rfl (Run.call Tryd.call23 rfl rfl rfl) (k0_ _ _ _ _) ?_)
  rintro _ whs5 ⟨rfl, hs5⟩
  replace hs5 := hs2.call0 hs5
  refine ⟨_, rfl, WL.runA tbk 1 (Acts.nil.cons (j := 2) rfl g3) hs5 [] rfl trivial ?_⟩
  apply WL.gA 3 (Acts.nil.cons (j := 2) rfl g3) hs5 rfl
  ·intro g6 J7
   have qg6 := g6
   try simp only [bf, within_iff, within_not] at qg6
   refine WL.runA tbk 1 (Acts.nil.cons (j := 5) rfl g6) hs5 [] rfl trivial (WL.call (wantT rfl g6) rfl rfl (Run.call Tryd.call23 rfl rfl rfl) (k0_ _ _ _ _) ?_)
   rintro _ whs8 ⟨rfl, hs8⟩
   replace hs8 := hs5.call0 hs8
   refine ⟨_, rfl, WL.runA tbk 1 (Acts.nil.cons (j := 5) rfl g6) hs8 [] rfl trivial (WL.eA 3 (Acts.nil.cons (j := 2) rfl g3) J7 hs8 g6 rfl rfl)⟩
  intro _ hs9
  exact WL.eO 4 Acts.nil J4 hs9 g3 rfl rfl
 intro _ hs10
 refine WL.r 1 hs10 [] rfl (WL.nil (WC.ret (rtv rfl rfl hs10 ?_)))
 rfl
theorem k6_ (n : Int) (w : World) :
    Calls Tryd.prog 50 #[i64 n] w fun e w' => e = .returned (.bool (shows n)) ∧ St w [] [] w' := by
 refine enter 25 Tryd.func50 rfl Tryd.ntmps50 rfl rfl ?_
 have hs1 := St.init w
 refine WC.r1 hs1 [] rfl (WC.sr (WL.r 3 hs1 [] rfl (WL.pA tbk 2 Acts.nil hs1 [] rfl rfl rfl rfl (fun g_ => trivial) (WL.r 1 hs1 [] rfl ?_))))
 apply WL.gO 14 Acts.nil hs1 rfl
 ·intro g2 J3
  have qg2 := g2
  try simp only [bf, within_iff, within_not] at qg2
  refine WL.runA tbk 3 (Acts.nil.cons (j := 6) rfl g2) hs1 [] rfl trivial (WL.pA tbk 2 (Acts.nil.cons (j := 6) rfl g2) hs1 [] rfl rfl rfl rfl (fun g_ => trivial) (WL.runA tbk 1 (Acts.nil.cons (j := 6) rfl g2) hs1 [] rfl trivial ?_))
  apply WL.gA 6 (Acts.nil.cons (j := 6) rfl g2) hs1 rfl
  ·intro g4 J5
   have qg4 := g4
   try simp only [bf, within_iff, within_not] at qg4
   refine WL.runA tbk 3 (Acts.nil.cons (j := 13) rfl g4) hs1 [] rfl trivial (WL.pO tbk 2 (Acts.nil.cons (j := 13) rfl g4) hs1 [] rfl rfl rfl rfl (fun g_ => trivial) (WL.eA 4 (Acts.nil.cons (j := 6) rfl g2) J5 hs1 g4 rfl rfl))
  intro _ hs6
  exact WL.eO 6 Acts.nil J3 hs6 g2 rfl rfl
 intro _ hs7
 refine WL.r 1 hs7 [] rfl (WL.nil (WC.ret (rtv rfl rfl hs7 ?_)))
 refine congrArg Value.bool ?_; rw [Bool.eq_iff_iff]; simp [shows, within] <;> omega
theorem inf5 : Tryd.prog.info? 5 = some Tryd.t5 := by kernel_rfl
theorem k7_ (A_b : Option Addr) (n_b c_b : Nat) (b : List UInt8) (w : World) (f_b : SlF encB w A_b n_b b) (hn : n_b ≤ 2) :
    Calls Tryd.prog 37 #[.slice A_b n_b c_b] w fun e w' => e = .returned (.tuple #[.int .i64 (tlV b : Nat), .bool (tlOk b)]) ∧ St w [] [] w' := by
 have hbl := f_b.len
 refine enter 24 Tryd.func37 rfl Tryd.ntmps37 rfl rfl ?_
 have hs1 := St.init w
 refine WC.r1 hs1 [] rfl (WC.r1 hs1 [] rfl (WC.seq (fun K2 hK2 => WC.r1 hs1 [] rfl (WC.block ?_))))
 refine WC.lS [7, 8] rfl hs1 (fun k_ f w' => ∃ (i : Nat), k_ = n_b - i ∧ (i ≤ n_b) ∧ (tlOk (b.take i) = true) ∧ Sub [(9, .int .i64 i), (4, .int .i64 (tlN (b.take i) : Nat))] f) ((fun (i : Nat) => n_b - i) (0)) ?_ ?_
 ·refine ⟨0, rfl, ?_, ?_, ⟨rfl, ?_, trivial⟩⟩
  · exact Nat.zero_le _
  · rfl
  · rfl
 clear hs1
 rintro _ f w ⟨i, rfl, p0, p1, hG⟩ hF hs3
 refine WC.sub _ (hG.app hF) ?_
 clear hG hF
 have hb_ := tlN_bnd (l := b.take i) (by rw [List.length_take]; omega)
 simp only [List.length_take] at hb_
 refine WC.r1 hs3 [] rfl (WC.seq (fun K4 hK4 => ?_))
 refine WC.cD rfl (fun qh5 => ?_) (fun qh5 => ?_)
 ·refine WC.skip (hK4 _ _ (WC.seq (fun K6 hK6 => WC.block (WC.sr ?_))))
  refine WL.val rfl rfl rfl (Run.idxN Tryd.runUnderlying22 Tryd.sizeOf5 rfl rfl rfl ?_ ?_ ?_) ?_
  · exact SlF.some_ (SlF.st0 f_b hs3)
  · omega
  · omega
  refine WL.val rfl rfl rfl (Run.load Tryd.isAgg5 rfl rfl (SlF.one1 (SlF.st0 f_b hs3) ?_ rfl)) ?_
  · omega
  refine WL.r 1 hs3 [] rfl (WL.nil (WC.seq (fun K7 hK7 => WC.sr (WL.r 1 hs3 [] rfl ?_))))
  refine WL.val rfl rfl rfl (Run.quoB 64 rfl rfl rfl ?_ ?_) ?_
  · decide
  · decide
  refine WL.r 1 hs3 [] rfl (WL.nil (WC.cN rfl (fun qh8 => ?_) (fun qh8 => ?_)))
  ·refine WC.r1 hs3 [] rfl (WC.ret (tkR (ibR (tkR (tkR (ibR (tkR ?_)))))))
   clear hK7 hK6 hK2
   refine retV2 rfl (resV.tmp rfl) (resV.tmp rfl) (⟨congrArg Ending.returned ?_, hs3.nil⟩)
   simp only [u8_div] at qh8
   have hbad := tlOk_bad (l := b) (i := i) (by omega) (by omega)
   rw [hbad, show tlV b = 0 from if_neg (by rw [hbad]; decide)]; rfl
  refine WC.skip (hK7 _ _ (WC.region (WL.r 3 hs3 [] rfl ?_)))
  refine WL.val rfl rfl rfl (Run.remB 64 rfl rfl rfl ?_ ?_) ?_
  · decide
  · decide
  refine WL.run tbk 3 hs3 [] rfl ⟨?_, (u8_in _), trivial⟩ ?_
  · rw [u8_mod]; constructor <;> omega
  refine WL.nil (hK6 _ _ (WC.region (WL.r 2 hs3 [] rfl (WL.nil (tkN ?_)))))
  refine ⟨sbF rfl, hs3, _, ?_, i + 1, rfl, ?_, ?_, ⟨rfl, ?_, trivial⟩⟩
  · omega
  · omega
  · simp only [u8_div] at qh8; rw [tlOk_take (by omega), p1, Bool.true_and, decide_eq_true_eq]; omega
  · refine congrArg some (congrArg (Value.int _) ?_); rw [tlN_take (by omega), u8_mod]; omega
 refine WC.exit (hK2 _ _ (WC.r1 hs3 [] rfl (WC.ret (retV2 rfl (resV.tmp rfl) (resV.tmp rfl) (⟨congrArg Ending.returned ?_, hs3.nil⟩)))))
 have ht : b.take i = b := List.take_of_length_le (by omega)
 rw [ht] at p1
 rw [p1, ht, show tlV b = tlN b from if_pos p1]
theorem k8_ (r : Int) (w : World) :
    Calls Tryd.prog 22 #[i64 r] w fun e w' => ∃ A c L1, e = .returned (.slice A (runeB r).length c) ∧ St w [] L1 w' ∧ OwnF encB 5 (.slice A (runeB r).length c) (runeB r) L1 := by
 refine enter 39 Tryd.func22 rfl Tryd.ntmps22 rfl rfl ?_
 have hs1 := St.init w
 refine WC.r1 hs1 [] rfl (WC.seq (fun K2 hK2 => WC.block (WC.sr (WL.r 1 hs1 [] rfl (WL.cl Tryd.call38 rfl (k5_ _ _) ?_)))))
 rintro _ whs3 ⟨rfl, hs3⟩
 replace hs3 := hs1.call0 hs3
 refine ⟨_, rfl, WL.r 2 hs3 [] rfl (WL.nil (WC.cq rfl (fun h4 qh4 => ?_) (fun h4 qh4 => ?_)))⟩
 ·have hsh : shows r = false := by simpa using qh4
  refine WC.r1 hs3 [] rfl (WC.ret (ibR (tkR ?_)))
  clear hK2
  refine retV1 rfl (resV.tmp rfl) ?_
  have hx_ := OwnF.eqOf (xs := runeB r) (OwnF.nil encB 5) (by simp [runeB, hsh])
  rw [← hx_]
  exact ⟨_, _, _, rfl, hs3.nil, (OwnF.nil encB 5)⟩
 have hsh : shows r = true := by simpa using qh4
 have hsi := shows_iff.1 hsh
 refine WC.r1 hs3 [] rfl (WC.cD rfl (fun qh5 => ?_) (fun qh5 => ?_))
 ·refine WC.sr (WL.r 2 hs3 [] rfl (WL.buildF (F := encB) hs3 ([ub r]) Tryd.runUnderlying22 Tryd.sizeOf5 Tryd.zeroValue5 rfl rfl rfl rfl rfl rfl rfl rfl rfl rfl rfl rfl (fun A9 c10 L6 whs7 hs7 ho8 => WL.r 1 hs7 [] rfl (WL.nil (WC.ret (ibR (tkR ?_)))))))
  clear hK2
  refine retV1 rfl (resV.tmp rfl) ?_
  have hx_ := OwnF.eqOf (xs := runeB r) ho8 (by unfold runeB; rw [hsh, if_neg (by decide), if_pos (by omega)])
  rw [← hx_]
  first | exact ⟨_, _, _, rfl, (St.keep1 hs7), ho8⟩ | exact ⟨A9, c10, _, by rw [OwnF.len_ ho8], (St.keep1 hs7), by rw [OwnF.len_ ho8]; exact ho8⟩
 refine WC.r1 hs3 [] rfl (WC.cD rfl (fun qh11 => ?_) (fun qh11 => ?_))
 ·refine WC.sr (WL.r 1 hs3 [] rfl (WL.val rfl rfl rfl (Run.quo rfl rfl rfl ?_ ?_ ?_) ?_))
  · omega
  · omega
  · omega
  refine WL.r 3 hs3 [] rfl (WL.val rfl rfl rfl (Run.rem rfl rfl rfl ?_ ?_) ?_)
  · omega
  · omega
  refine WL.r 2 hs3 [] rfl (WL.buildF (F := encB) hs3 ([ub (192 + r / 64), ub (128 + r % 64)]) Tryd.runUnderlying22 Tryd.sizeOf5 Tryd.zeroValue5 rfl rfl rfl rfl rfl rfl rfl rfl rfl rfl rfl rfl (fun A15 c16 L12 whs13 hs13 ho14 => WL.r 1 hs13 [] rfl (WL.nil (WC.ret (ibR (tkR ?_))))))
  clear hK2
  refine retV1 rfl (resV.tmp rfl) ?_
  have hx_ := OwnF.eqOf (xs := runeB r) ho14 (by unfold runeB; rw [hsh, if_neg (by decide), if_neg (by omega), if_pos (by omega)])
  rw [← hx_]
  first | exact ⟨_, _, _, rfl, (St.keep1 hs13), ho14⟩ | exact ⟨A15, c16, _, by rw [OwnF.len_ ho14], (St.keep1 hs13), by rw [OwnF.len_ ho14]; exact ho14⟩
 refine WC.skip (hK2 _ _ (WC.sr (WL.r 1 hs3 [] rfl ?_)))
 refine WL.val rfl rfl rfl (Run.quo rfl rfl rfl ?_ ?_ ?_) ?_
 · omega
 · omega
 · omega
 refine WL.r 3 hs3 [] rfl (WL.val rfl rfl rfl (Run.quo rfl rfl rfl ?_ ?_ ?_) ?_)
 · omega
 · omega
 · omega
 refine WL.val rfl rfl rfl (Run.rem rfl rfl rfl ?_ ?_) ?_
 · omega
 · omega
 refine WL.r 3 hs3 [] rfl (WL.val rfl rfl rfl (Run.rem rfl rfl rfl ?_ ?_) ?_)
 · omega
 · omega
 refine WL.r 2 hs3 [] rfl (WL.buildF (F := encB) hs3 ([ub (224 + r / 4096), ub (128 + r / 64 % 64), ub (128 + r % 64)]) Tryd.runUnderlying22 Tryd.sizeOf5 Tryd.zeroValue5 rfl rfl rfl rfl rfl rfl rfl rfl rfl rfl rfl rfl (fun A20 c21 L17 whs18 hs18 ho19 => WL.r 1 hs18 [] rfl (WL.nil (WC.ret (retV1 rfl (resV.tmp rfl) ?_)))))
 have hx_ := OwnF.eqOf (xs := runeB r) ho19 (by unfold runeB; rw [hsh, if_neg (by decide), if_neg (by omega), if_neg (by omega)])
 rw [← hx_]
 first | exact ⟨_, _, _, rfl, (St.keep1 hs18), ho19⟩ | exact ⟨A20, c21, _, by rw [OwnF.len_ ho19], (St.keep1 hs18), by rw [OwnF.len_ ho19]; exact ho19⟩
theorem k9_ (r : Int) (w : World) :
    Calls Tryd.prog 28 #[i64 r] w fun e w' => ∃ A c L1, e = .returned (.slice A (runeB r).length c) ∧ St w [] L1 w' ∧ OwnF encB 5 (.slice A (runeB r).length c) (runeB r) L1 := by
 refine enter 36 Tryd.func28 rfl Tryd.ntmps28 rfl rfl ?_
 have hs1 := St.init w
 refine WC.r1 hs1 [] rfl (WC.seq (fun K2 hK2 => WC.sr (WL.r 1 hs1 [] rfl (WL.cl Tryd.call50 rfl (k6_ _ _) ?_))))
 rintro _ whs3 ⟨rfl, hs3⟩
 replace hs3 := hs1.call0 hs3
 refine ⟨_, rfl, WL.r 1 hs3 [] rfl (WL.nil (WC.cq rfl (fun h4 qh4 => ?_) (fun h4 qh4 => ?_)))⟩
 ·have hsh : shows r = false := by simpa using qh4
  refine WC.r1 hs3 [] rfl (WC.ret (tkR ?_))
  clear hK2
  refine retV1 rfl (resV.tmp rfl) ?_
  have hx_ := OwnF.eqOf (xs := runeB r) (OwnF.nil encB 5) (by simp [runeB, hsh])
  rw [← hx_]
  exact ⟨_, _, _, rfl, hs3.nil, (OwnF.nil encB 5)⟩
 have hsh : shows r = true := by simpa using qh4
 have hsi := shows_iff.1 hsh
 refine WC.skip (hK2 _ _ (WC.seq (fun K5 hK5 => WC.r1 hs3 [] rfl ?_)))
 refine WC.cD rfl (fun qh6 => ?_) (fun qh6 => ?_)
 ·refine WC.sr (WL.r 2 hs3 [] rfl (WL.buildF (F := encB) hs3 ([ub r]) Tryd.runUnderlying22 Tryd.sizeOf5 Tryd.zeroValue5 rfl rfl rfl rfl rfl rfl rfl rfl rfl rfl rfl rfl (fun A10 c11 L7 whs8 hs8 ho9 => WL.r 1 hs8 [] rfl (WL.nil (WC.ret (tkR ?_))))))
  clear hK5
  refine retV1 rfl (resV.tmp rfl) ?_
  have hx_ := OwnF.eqOf (xs := runeB r) ho9 (by unfold runeB; rw [hsh, if_neg (by decide), if_pos (by omega)])
  rw [← hx_]
  first | exact ⟨_, _, _, rfl, (St.keep1 hs8), ho9⟩ | exact ⟨A10, c11, _, by rw [OwnF.len_ ho9], (St.keep1 hs8), by rw [OwnF.len_ ho9]; exact ho9⟩
 refine WC.skip (hK5 _ _ (WC.seq (fun K12 hK12 => WC.r1 hs3 [] rfl ?_)))
 refine WC.cD rfl (fun qh13 => ?_) (fun qh13 => ?_)
 ·refine WC.sr (WL.r 1 hs3 [] rfl (WL.val rfl rfl rfl (Run.quo rfl rfl rfl ?_ ?_ ?_) ?_))
  · omega
  · omega
  · omega
  refine WL.r 3 hs3 [] rfl (WL.val rfl rfl rfl (Run.rem rfl rfl rfl ?_ ?_) ?_)
  · omega
  · omega
  refine WL.r 2 hs3 [] rfl (WL.buildF (F := encB) hs3 ([ub (192 + r / 64), ub (128 + r % 64)]) Tryd.runUnderlying22 Tryd.sizeOf5 Tryd.zeroValue5 rfl rfl rfl rfl rfl rfl rfl rfl rfl rfl rfl rfl (fun A17 c18 L14 whs15 hs15 ho16 => WL.r 1 hs15 [] rfl (WL.nil (WC.ret (tkR ?_)))))
  clear hK12
  refine retV1 rfl (resV.tmp rfl) ?_
  have hx_ := OwnF.eqOf (xs := runeB r) ho16 (by unfold runeB; rw [hsh, if_neg (by decide), if_neg (by omega), if_pos (by omega)])
  rw [← hx_]
  first | exact ⟨_, _, _, rfl, (St.keep1 hs15), ho16⟩ | exact ⟨A17, c18, _, by rw [OwnF.len_ ho16], (St.keep1 hs15), by rw [OwnF.len_ ho16]; exact ho16⟩
 refine WC.skip (hK12 _ _ (WC.sr (WL.r 1 hs3 [] rfl ?_)))
 refine WL.val rfl rfl rfl (Run.quo rfl rfl rfl ?_ ?_ ?_) ?_
 · omega
 · omega
 · omega
 refine WL.r 3 hs3 [] rfl (WL.val rfl rfl rfl (Run.quo rfl rfl rfl ?_ ?_ ?_) ?_)
 · omega
 · omega
 · omega
 refine WL.val rfl rfl rfl (Run.rem rfl rfl rfl ?_ ?_) ?_
 · omega
 · omega
 refine WL.r 3 hs3 [] rfl (WL.val rfl rfl rfl (Run.rem rfl rfl rfl ?_ ?_) ?_)
 · omega
 · omega
 refine WL.r 2 hs3 [] rfl (WL.buildF (F := encB) hs3 ([ub (224 + r / 4096), ub (128 + r / 64 % 64), ub (128 + r % 64)]) Tryd.runUnderlying22 Tryd.sizeOf5 Tryd.zeroValue5 rfl rfl rfl rfl rfl rfl rfl rfl rfl rfl rfl rfl (fun A22 c23 L19 whs20 hs20 ho21 => WL.r 1 hs20 [] rfl (WL.nil (WC.ret (retV1 rfl (resV.tmp rfl) ?_)))))
 have hx_ := OwnF.eqOf (xs := runeB r) ho21 (by unfold runeB; rw [hsh, if_neg (by decide), if_neg (by omega), if_neg (by omega)])
 rw [← hx_]
 first | exact ⟨_, _, _, rfl, (St.keep1 hs20), ho21⟩ | exact ⟨A22, c23, _, by rw [OwnF.len_ ho21], (St.keep1 hs20), by rw [OwnF.len_ ho21]; exact ho21⟩
theorem k10_ (A_a : Option Addr) (n_a c_a : Nat) (a : List UInt8) (A_b : Option Addr) (n_b c_b : Nat) (b : List UInt8) (w : World) (f_a : SlF encB w A_a n_a a) (f_b : SlF encB w A_b n_b b) (hn : n_a ≤ 1099511627776) :
    Calls Tryd.prog 71 #[.slice A_a n_a c_a, .slice A_b n_b c_b] w fun e w' => e = .returned (.bool (decide (a = b))) ∧ St w [] [] w' := by
 have hla := f_a.len
 have hlb := f_b.len
 refine enter 26 Tryd.func71 rfl Tryd.ntmps71 rfl rfl ?_
 have hs1 := St.init w
 refine WC.r1 hs1 [] rfl (WC.seq (fun K2 hK2 => WC.r1 hs1 [] rfl ?_))
 refine WC.cq rfl (fun h3 qh3 => ?_) (fun h3 qh3 => ?_)
 ·refine WC.r1 hs1 [] rfl (WC.ret (tkR ?_))
  clear hK2
  refine rtv rfl rfl hs1 ?_
  refine congrArg Value.bool ?_; symm; rw [decide_eq_false_iff_not]; intro he; subst he; omega
 refine WC.skip (hK2 _ _ (WC.seq (fun K4 hK4 => WC.r1 hs1 [] rfl (WC.block ?_))))
 refine WC.lS [0, 1, 10, 12] rfl hs1 (fun k_ f w' => ∃ (i : Nat), k_ = n_a - i ∧ (i ≤ n_a) ∧ (∀ j, j < i → gat encB a j = gat encB b j) ∧ Sub [(13, .int .i64 i)] f) ((fun (i : Nat) => n_a - i) (0)) ?_ ?_
 ·refine ⟨0, rfl, ?_, ?_, ⟨rfl, trivial⟩⟩
  · exact Nat.zero_le _
  · exact fun j hj => absurd hj (by omega)
 clear hs1
 rintro _ f w ⟨i, rfl, p0, p1, hG⟩ hF hs5
 refine WC.sub _ (hG.app hF) ?_
 clear hG hF
 refine WC.r1 hs5 [] rfl (WC.seq (fun K6 hK6 => ?_))
 refine WC.cq rfl (fun h7 qh7 => ?_) (fun h7 qh7 => ?_)
 ·refine WC.skip (hK6 _ _ (WC.seq (fun K8 hK8 => WC.block (WC.r1 hs5 [] rfl (WC.sq1 hs5 (WQ.r 2 [] rfl ?_))))))
  refine WQ.val rfl rfl rfl (fun w_ hs_ => (Run.idxN Tryd.runUnderlying22 Tryd.sizeOf5 rfl rfl rfl ?_ ?_ ?_)) ?_
  · exact SlF.some_ (SlF.st0 f_a (hs_ : St _ _ _ _))
  · omega
  · omega
  refine WQ.val rfl rfl rfl (fun w_ hs_ => (Run.load Tryd.isAgg5 rfl rfl (SlF.one1 (SlF.st0 f_a (hs_ : St _ _ _ _)) ?_ rfl))) ?_
  · omega
  refine WQ.r 2 [] rfl ?_
  refine WQ.val rfl rfl rfl (fun w_ hs_ => (Run.idxN Tryd.runUnderlying22 Tryd.sizeOf5 rfl rfl rfl ?_ ?_ ?_)) ?_
  · exact SlF.some_ (SlF.st0 f_b (hs_ : St _ _ _ _))
  · omega
  · omega
  refine WQ.val rfl rfl rfl (fun w_ hs_ => (Run.load Tryd.isAgg5 rfl rfl (SlF.one1 (SlF.st0 f_b (hs_ : St _ _ _ _)) ?_ rfl))) ?_
  · omega
  refine WQ.r 1 [] rfl (WQ.nil (fun _ (hs9 : St _ _ _ _) => ?_))
  refine WC.cq rfl (fun h10 qh10 => ?_) (fun h10 qh10 => ?_)
  ·refine WC.r1 hs9 [] rfl (WC.ret (ibR (tkR (tkR (ibR (tkR ?_))))))
   clear hK8 hK4
   refine rtv rfl rfl hs9 ?_
   refine congrArg Value.bool ?_; symm; rw [decide_eq_false_iff_not]; intro he; subst he; simp at h10
  refine WC.skip (hK8 _ _ (WC.region (WL.r 2 hs9 [] rfl (WL.nil (tkN ?_)))))
  refine ⟨sbF rfl, hs9, _, ?_, i + 1, rfl, ?_, ?_, ⟨rfl, trivial⟩⟩
  · omega
  · omega
  · intro j hj; rcases Nat.lt_or_ge j i with h_ | h_
    · exact p1 j h_
    · obtain rfl : j = i := by omega
      exact u8_inj (by simpa using h10)
 refine WC.exit (hK4 _ _ (WC.r1 hs5 [] rfl (WC.ret (rtv rfl rfl hs5 ?_))))
 refine congrArg Value.bool ?_; symm; rw [decide_eq_true_eq]; exact gat_ext (F := encB) (by omega) (fun j hj => p1 j (by omega))
theorem k11_ (A_s : Option Addr) (n_s c_s : Nat) (s : List UInt8) (w : World) (f_s : SlF encB w A_s n_s s) (hn : n_s ≤ 268435456) :
    Calls Tryd.prog 53 #[.slice A_s n_s c_s] w fun e w' => ∃ A c L1, e = .returned (.slice A (s).length c) ∧ St w [] L1 w' ∧ OwnF encB 5 (.slice A (s).length c) (s) L1 := by
 have hl := f_s.len
 refine enter 8 Tryd.func53 rfl Tryd.ntmps53 rfl rfl ?_
 have hs1 := St.init w
 refine WC.r1 hs1 [] rfl (WC.seq (fun K2 hK2 => WC.sr (WL.r 1 hs1 [] rfl (WL.val rfl rfl rfl (Run.eqlNil Tryd.underlying22 rfl rfl rfl) (WL.nil ?_)))))
 refine WC.cq rfl (fun h3 qh3 => ?_) (fun h3 qh3 => ?_)
 ·obtain rfl : A_s = none := by simpa using qh3
  have h0 : n_s = 0 := SlF.none_ f_s
  have hs : s = [] := List.eq_nil_of_length_eq_zero (by omega)
  refine WC.r1 hs1 [] rfl (WC.ret (tkR ?_))
  clear hK2
  refine retV1 rfl (resV.tmp rfl) ?_
  have hx_ := OwnF.eqOf (xs := s) (OwnF.nil encB 5) (by rw [hs])
  rw [← hx_]
  exact ⟨_, _, _, rfl, hs1.nil, (OwnF.nil encB 5)⟩
 refine WC.skip (hK2 _ _ (WC.sr (WL.buildF (F := encB) hs1 ([]) Tryd.runUnderlying22 Tryd.sizeOf5 Tryd.zeroValue5 rfl rfl rfl rfl rfl rfl rfl rfl rfl rfl rfl rfl (fun A7 c8 L4 whs5 hs5 ho6 => WL.r 1 hs5 [] rfl ?_))))
 refine WL.appendG hs5 ho6 (SlF.src (SlF.st0 f_s hs5) Tryd.underlying22) Tryd.underlying22 inf5 rfl rfl rfl rfl rfl rfl rfl rfl rfl rfl ?_ (fun A12 c13 L9 whs10 hs10 ho11 => ?_)
 · simp; omega
 refine WL.r 1 hs10 [] rfl (WL.nil (WC.ret (retV1 rfl (resV.tmp rfl) ?_)))
 have hx_ := OwnF.eqOf (xs := s) ho11 (by simp)
 rw [← hx_]
 first | exact ⟨_, _, _, rfl, (St.keep1 hs10), ho11⟩ | exact ⟨A12, c13, _, by rw [OwnF.len_ ho11], (St.keep1 hs10), by rw [OwnF.len_ ho11]; exact ho11⟩
theorem k12_ (A_s : Option Addr) (n_s c_s : Nat) (s : List Int) (w : World) (f_s : SlF encI w A_s n_s s) (hn : n_s ≤ 268435456) :
    Calls Tryd.prog 52 #[.slice A_s n_s c_s] w fun e w' => ∃ A c L1, e = .returned (.slice A (s).length c) ∧ St w [] L1 w' ∧ OwnF encI 3 (.slice A (s).length c) (s) L1 := by
 have hl := f_s.len
 refine enter 8 Tryd.func52 rfl Tryd.ntmps52 rfl rfl ?_
 have hs1 := St.init w
 refine WC.r1 hs1 [] rfl (WC.seq (fun K2 hK2 => WC.sr (WL.r 1 hs1 [] rfl (WL.val rfl rfl rfl (Run.eqlNil Tryd.underlying24 rfl rfl rfl) (WL.nil ?_)))))
 refine WC.cq rfl (fun h3 qh3 => ?_) (fun h3 qh3 => ?_)
 ·obtain rfl : A_s = none := by simpa using qh3
  have h0 : n_s = 0 := SlF.none_ f_s
  have hs : s = [] := List.eq_nil_of_length_eq_zero (by omega)
  refine WC.r1 hs1 [] rfl (WC.ret (tkR ?_))
  clear hK2
  refine retV1 rfl (resV.tmp rfl) ?_
  have hx_ := OwnF.eqOf (xs := s) (OwnF.nil encI 3) (by rw [hs])
  rw [← hx_]
  exact ⟨_, _, _, rfl, hs1.nil, (OwnF.nil encI 3)⟩
 refine WC.skip (hK2 _ _ (WC.sr (WL.buildF (F := encI) hs1 ([]) Tryd.runUnderlying24 Tryd.sizeOf3 Tryd.zeroValue3 rfl rfl rfl rfl rfl rfl rfl rfl rfl rfl rfl rfl (fun A7 c8 L4 whs5 hs5 ho6 => WL.r 1 hs5 [] rfl ?_))))
 refine WL.appendG hs5 ho6 (SlF.src (SlF.st0 f_s hs5) Tryd.underlying24) Tryd.underlying24 inf3 rfl rfl rfl rfl rfl rfl rfl rfl rfl rfl ?_ (fun A12 c13 L9 whs10 hs10 ho11 => ?_)
 · simp; omega
 refine WL.r 1 hs10 [] rfl (WL.nil (WC.ret (retV1 rfl (resV.tmp rfl) ?_)))
 have hx_ := OwnF.eqOf (xs := s) ho11 (by simp)
 rw [← hx_]
 first | exact ⟨_, _, _, rfl, (St.keep1 hs10), ho11⟩ | exact ⟨A12, c13, _, by rw [OwnF.len_ ho11], (St.keep1 hs10), by rw [OwnF.len_ ho11]; exact ho11⟩
theorem k13_ (A_b : Option Addr) (n_b c_b : Nat) (b : List UInt8) (w : World) (f_b : SlF encB w A_b n_b b) (hc : n_b ≤ c_b) (hn : n_b ≤ 549755813888) :
    Calls Tryd.prog 64 #[.slice A_b n_b c_b, i64 0] w fun e w' => e = .returned (.tuple #[.int .i64 (rvN (runeL b)), .int .i64 (rvS (runeL b) : Nat)]) ∧ St w [] [] w' := by
 have hbl := f_b.len
 have hb0 := (gat encB b 0).toNat_lt
 refine enter 72 Tryd.func64 rfl Tryd.ntmps64 rfl rfl ?_
 have hs1 := St.init w
 refine WC.r1 hs1 [] rfl (WC.seq (fun K2 hK2 => WC.sr ?_))
 refine WL.run tbk 4 hs1 [] rfl ⟨by first | omega | (simp only [p6]; omega), trivial⟩ (WL.cl Tryd.call23 rfl (k0_ _ _ _ _) ?_)
 rintro _ whs3 ⟨rfl, hs3⟩
 replace hs3 := hs1.call0 hs3
 refine ⟨_, rfl, WL.r 1 hs3 [] rfl (WL.nil (WC.cq rfl (fun h4 qh4 => ?_) (fun h4 qh4 => ?_)))⟩
 ·refine WC.r1 hs3 [] rfl (WC.ret (tkR ?_))
  clear hK2
  refine retV2 rfl (resV.tmp rfl) (resV.tmp rfl) (⟨congrArg Ending.returned ?_, hs3.nil⟩)
  have h0 : b = [] := List.eq_nil_of_length_eq_zero (by omega)
  subst h0
  rw [runeL_nil]; rfl
 refine WC.skip (hK2 _ _ (WC.sr (WL.r 2 hs3 [] rfl ?_)))
 refine WL.val rfl rfl rfl (Run.idxK (0) Tryd.runUnderlying22 Tryd.sizeOf5 rfl rfl rfl ?_ ?_ ?_) ?_
 · exact SlF.some_ (SlF.st0 f_b hs3)
 · first | omega | (simp only [p6]; omega)
 · first | omega | (simp only [p6]; omega)
 refine WL.val rfl rfl rfl (Run.load Tryd.isAgg5 rfl rfl (SlF.one1 (SlF.st0 f_b hs3) ?_ rfl)) ?_
 · omega
 refine WL.r 3 hs3 [] rfl (WL.nil (WC.seq (fun K5 hK5 => WC.block (WC.sr (WL.r 1 hs3 [] rfl (WL.cl Tryd.call23 rfl (k0_ _ _ _ _) ?_))))))
 rintro _ whs6 ⟨rfl, hs6⟩
 replace hs6 := hs3.call0 hs6
 refine ⟨_, rfl, WL.r 1 hs6 [] rfl (WL.nil (WC.cq rfl (fun h7 qh7 => ?_) (fun h7 qh7 => ?_)))⟩
 ·have hcl : rcls (bat b 0) = 2 := by unfold rcls; rw [if_pos (by simp only [gat, bat] at *; omega)]
  refine WC.region ?_
  refine WL.run tbk 4 hs6 [] rfl ⟨by first | omega | (simp only [p6]; omega), trivial⟩ (WL.nil (hK5 _ _ (WC.seq (fun K8 hK8 => ?_))))
  refine WC.rr tbk hs6 [] rfl ⟨by first | omega | (simp only [p6]; omega), trivial⟩ (WC.cq rfl (fun h9 qh9 => ?_) (fun h9 qh9 => ?_))
  ·refine WC.r1 hs6 [] rfl (WC.ret (tkR ?_))
   clear hK8
   refine retV2 rfl (resV.tmp rfl) (resV.tmp rfl) (⟨congrArg Ending.returned ?_, hs6.nil⟩)
   have hno : runeL b = none := rread_no (by omega) hcl (fun r hr h1 h2 h3 => by
       omega)
   rw [hno]; rfl
  refine WC.skip (hK8 _ _ (WC.sr ?_))
  refine WL.run tbk 6 hs6 [] rfl ⟨by first | omega | (simp only [p6]; omega), by first | omega | (simp only [p6]; omega), trivial⟩ (WL.val rfl rfl rfl (Run.sliceLH (1) (2) Tryd.runUnderlying22 Tryd.sizeOf5 rfl rfl rfl rfl ?_ ?_ ?_) ?_)
  · first | rfl | (first | omega | (simp only [p6]; omega))
  · first | rfl | (first | omega | (simp only [p6]; omega))
  · refine ⟨?_, ?_, ?_⟩ <;> (first | omega | (simp only [p6]; omega))
  refine WL.cl Tryd.call37 rfl (k7_ _ _ _ _ _ (SlF.cutC (lo := 1) (hi := 2) (SlF.st0 f_b hs6) (by refine ⟨?_, ?_, ?_⟩ <;> (first | omega | (simp only [p6]; omega)))) ?_) ?_
  · first | assumption | rfl | omega
  rintro _ whs10 ⟨rfl, hs10⟩
  replace hs10 := hs6.call0 hs10
  refine ⟨_, rfl, WL.r 3 hs10 [] rfl ?_⟩
  have htv := tlV_bnd (l := (b.drop 1).take (2 - 1)) (by rw [List.length_take, List.length_drop]; omega)
  refine WL.r 2 hs10 [] rfl (WL.nil (WC.sr ?_))
  refine WL.run tbk 4 hs10 [] rfl ⟨by first | omega | (simp only [p6]; omega), by first | omega | (simp only [p6]; omega), trivial⟩ (WL.val rfl rfl rfl (Run.shl rfl rfl rfl ?_ ?_ ?_) ?_)
  · first | omega | (simp only [p6]; omega)
  · first | omega | (simp only [p6]; omega)
  · simp only [p6]; constructor <;> omega
  refine WL.r 1 hs10 [] rfl (WL.val rfl rfl rfl (Run.or rfl rfl rfl ?_ ?_ ?_ ?_) ?_)
  · first | omega | (simp only [p6]; omega)
  · first | omega | (simp only [p6]; omega)
  · first | omega | (simp only [p6]; omega)
  · first | omega | (simp only [p6]; omega)
  refine WL.r 1 hs10 [] rfl (WL.nil (WC.seq (fun K11 hK11 => WC.seq (fun K12 hK12 => WC.rH hs10 hs10 (fun _ hs13 => ?_)))))
  refine WH.rn [0, 1, 2] hs13 [] rfl rfl (WH.split 58 rfl (fun g14 => ?_) (fun g14 => ?_))
  ·refine WH.takeSkip 3 rfl (by kernel_rfl) (wantNF rfl g14) rfl rfl hs13 (WH.takeSkip 5 rfl (by kernel_rfl) (wantNF rfl g14) rfl rfl hs13 (WH.takeSkip 6 rfl (by kernel_rfl) (wantNF rfl g14) rfl rfl hs13 (WH.takeSkip 7 rfl (by kernel_rfl) (wantNF rfl g14) rfl rfl hs13 (WH.takeSkip 8 rfl (by kernel_rfl) (wantNF rfl g14) rfl rfl hs13 (WH.takeSkip 9 rfl (by kernel_rfl) (wantNF rfl g14) rfl rfl hs13 (WH.takeSkip 10 rfl (by kernel_rfl) (wantNF rfl g14) rfl rfl hs13 (WH.o1 4 rfl ?_)))))))
   refine WL.skip (wantNF rfl g14) rfl rfl (WL.nil ⟨hs13, WH.o1 11 rfl (WL.skip (wantNF rfl g14) rfl rfl (WL.nil ⟨hs13, WH.takeSkip 12 rfl (by kernel_rfl) (wantNF rfl g14) rfl rfl hs13 ?_⟩))⟩)
   refine WH.take 13 rfl (by kernel_rfl) rfl rfl rfl hs13 (fun w_ hs_ => (Run.pickT rfl rfl g14 rfl)) ?_
   refine WH.dn (hK12 _ _ ?_)
   refine WC.cq rfl (fun h15 qh15 => ?_) (fun h15 qh15 => ?_)
   ·refine WC.r1 hs13 [] rfl (WC.ret (tkR ?_))
    clear hK11
    refine retV2 rfl (resV.tmp rfl) (resV.tmp rfl) (⟨congrArg Ending.returned ?_, hs13.nil⟩)
    have hno : runeL b = none := rread_no (by omega) hcl (fun r hr h1 h2 h3 => by
        have h9 := ‹(!tlOk ((b.drop 1).take (2 - 1))) = true›
        rw [h2] at h9; cases h9)
    rw [hno]; rfl
   refine WC.skip (hK11 _ _ (WC.r1 hs13 [] rfl (WC.ret (retV2 rfl (resV.tmp rfl) (resV.tmp rfl) (⟨congrArg Ending.returned ?_, hs13.nil⟩)))))
   cases h15
  refine WH.rnA (Acts.nil.cons (j := 2) rfl g14) [3, 5, 6, 7, 8, 9] hs13 [] rfl rfl ?_ (hS := ⟨by (first | omega | (simp only [p6]; omega)), trivial⟩)
  refine WH.take 10 rfl (by kernel_rfl) (wantF rfl g14) rfl rfl hs13 (fun w_ hs_ => (Run.sliceLH (0) (2) Tryd.runUnderlying22 Tryd.sizeOf5 rfl rfl rfl rfl ?_ ?_ ?_)) ?_
  · first | rfl | (first | omega | (simp only [p6]; omega))
  · first | rfl | (first | omega | (simp only [p6]; omega))
  · refine ⟨?_, ?_, ?_⟩ <;> (first | omega | (simp only [p6]; omega))
  refine WH.o1 4 rfl (WL.call (wantF rfl g14) rfl rfl (Run.call Tryd.call22 rfl rfl rfl) (k8_ _ _) ?_)
  rintro _ whs16 ⟨A17, c18, L1_19, rfl, hs16, ho20⟩
  replace hs16 := hs13.callF hs16
  refine ⟨_, rfl, WL.nil ⟨(hs16.rm L1_19), WH.o1 11 rfl ?_⟩⟩
  refine WL.call (wantF rfl g14) rfl rfl (Run.call Tryd.call71 rfl rfl rfl) (k10_ _ _ _ _ _ _ _ _ _ (SlF.ofOwn ho20 (hs16.ow L1_19)) (SlF.cutC (lo := 0) (hi := 2) (SlF.st0 f_b hs16) (by refine ⟨?_, ?_, ?_⟩ <;> (first | omega | (simp only [p6]; omega)))) ?_) ?_
  · exact Nat.le_trans (runeB_len _) (by decide)
  rintro _ whs21 ⟨rfl, hs21⟩
  replace hs21 := hs16.call0 hs21
  refine ⟨_, rfl, WL.nil ⟨(hs21.rm L1_19), WH.rnA (Acts.nil.cons (j := 2) rfl g14) [12] (hs21.rm L1_19) [] rfl rfl ?_⟩⟩
  refine WH.take 13 rfl (by kernel_rfl) rfl rfl rfl (hs21.rm L1_19) (fun w_ hs_ => (Run.pick rfl rfl rfl rfl)) ?_
  refine WH.dn (hK12 _ _ ?_)
  refine WC.cq rfl (fun h22 qh22 => ?_) (fun h22 qh22 => ?_)
  ·refine WC.r1 hs21 [] rfl (WC.ret (tkR ?_))
   clear hK11
   refine retV2 rfl (resV.tmp rfl) (resV.tmp rfl) (⟨congrArg Ending.returned ?_, hs21.nil⟩)
   have hrs := rsum_or (a := gat encB b 0) (t := ((b.drop 1).take (2 - 1))) (c := 2) (x := (((gat encB b 0).toNat : Int) - 192) * 2 ^ 6) (.inr (.inl ⟨rfl, by omega, rfl⟩)) (by rw [List.length_take, List.length_drop]; omega)
   have hq9 : (bif !tlOk ((b.drop 1).take (2 - 1)) then true else !decide (runeB (rsum (gat encB b 0) ((b.drop 1).take (2 - 1)) 2) = b.take 2)) = true := by rw [← hrs]; exact h22
   have hno : runeL b = none := rread_no (by omega) hcl (fun r hr h1 h2 h3 => by
       rw [h2] at hq9; subst hr; have h10 : runeB (rsum (gat encB b 0) ((b.drop 1).take (2 - 1)) 2) = b.take 2 := h3; rw [h10, decide_eq_true rfl] at hq9; cases hq9)
   rw [hno]; rfl
  refine WC.skip (hK11 _ _ (WC.r1 hs21 [] rfl (WC.ret (retV2 rfl (resV.tmp rfl) (resV.tmp rfl) (⟨congrArg Ending.returned ?_, hs21.nil⟩)))))
  have hrs := rsum_or (a := gat encB b 0) (t := ((b.drop 1).take (2 - 1))) (c := 2) (x := (((gat encB b 0).toNat : Int) - 192) * 2 ^ 6) (.inr (.inl ⟨rfl, by omega, rfl⟩)) (by rw [List.length_take, List.length_drop]; omega)
  have hq9 : (bif !tlOk ((b.drop 1).take (2 - 1)) then true else !decide (runeB (rsum (gat encB b 0) ((b.drop 1).take (2 - 1)) 2) = b.take 2)) = false := by rw [← hrs]; exact h22
  rcases h11 : tlOk ((b.drop 1).take (2 - 1)) with _ | _ <;> rw [h11] at hq9
  · cases hq9
  have hyes := rread_yes (by omega) hcl (by omega) h11 hrs (by rw [hrs]; by_cases h12 : runeB (rsum (gat encB b 0) ((b.drop 1).take (2 - 1)) 2) = b.take 2; exact h12; rw [decide_eq_false h12] at hq9; cases hq9)
  rw [hyes]; rfl
 refine WC.sr (WL.r 1 hs6 [] rfl (WL.cl Tryd.call23 rfl (k0_ _ _ _ _) ?_))
 rintro _ whs23 ⟨rfl, hs23⟩
 replace hs23 := hs6.call0 hs23
 refine ⟨_, rfl, WL.r 1 hs23 [] rfl (WL.nil (WC.cq rfl (fun h24 qh24 => ?_) (fun h24 qh24 => ?_)))⟩
 ·have hcl : rcls (bat b 0) = 3 := by unfold rcls; rw [if_neg (by simp only [gat, bat] at *; omega), if_pos (by simp only [gat, bat] at *; omega)]
  refine WC.region ?_
  refine WL.run tbk 4 hs23 [] rfl ⟨by first | omega | (simp only [p6]; omega), trivial⟩ (WL.nil (hK5 _ _ (WC.seq (fun K25 hK25 => ?_))))
  refine WC.rr tbk hs23 [] rfl ⟨by first | omega | (simp only [p6]; omega), trivial⟩ (WC.cq rfl (fun h26 qh26 => ?_) (fun h26 qh26 => ?_))
  ·refine WC.r1 hs23 [] rfl (WC.ret (tkR ?_))
   clear hK25
   refine retV2 rfl (resV.tmp rfl) (resV.tmp rfl) (⟨congrArg Ending.returned ?_, hs23.nil⟩)
   have hno : runeL b = none := rread_no (by omega) hcl (fun r hr h1 h2 h3 => by
       omega)
   rw [hno]; rfl
  refine WC.skip (hK25 _ _ (WC.sr ?_))
  refine WL.run tbk 6 hs23 [] rfl ⟨by first | omega | (simp only [p6]; omega), by first | omega | (simp only [p6]; omega), trivial⟩ (WL.val rfl rfl rfl (Run.sliceLH (1) (3) Tryd.runUnderlying22 Tryd.sizeOf5 rfl rfl rfl rfl ?_ ?_ ?_) ?_)
  · first | rfl | (first | omega | (simp only [p6]; omega))
  · first | rfl | (first | omega | (simp only [p6]; omega))
  · refine ⟨?_, ?_, ?_⟩ <;> (first | omega | (simp only [p6]; omega))
  refine WL.cl Tryd.call37 rfl (k7_ _ _ _ _ _ (SlF.cutC (lo := 1) (hi := 3) (SlF.st0 f_b hs23) (by refine ⟨?_, ?_, ?_⟩ <;> (first | omega | (simp only [p6]; omega)))) ?_) ?_
  · first | assumption | rfl | omega
  rintro _ whs27 ⟨rfl, hs27⟩
  replace hs27 := hs23.call0 hs27
  refine ⟨_, rfl, WL.r 3 hs27 [] rfl ?_⟩
  have htv := tlV_bnd (l := (b.drop 1).take (3 - 1)) (by rw [List.length_take, List.length_drop]; omega)
  refine WL.r 2 hs27 [] rfl (WL.nil (WC.sr ?_))
  refine WL.run tbk 4 hs27 [] rfl ⟨by first | omega | (simp only [p6]; omega), by first | omega | (simp only [p6]; omega), trivial⟩ (WL.val rfl rfl rfl (Run.shl rfl rfl rfl ?_ ?_ ?_) ?_)
  · first | omega | (simp only [p6]; omega)
  · first | omega | (simp only [p6]; omega)
  · simp only [p6]; constructor <;> omega
  refine WL.r 1 hs27 [] rfl (WL.val rfl rfl rfl (Run.or rfl rfl rfl ?_ ?_ ?_ ?_) ?_)
  · first | omega | (simp only [p6]; omega)
  · first | omega | (simp only [p6]; omega)
  · first | omega | (simp only [p6]; omega)
  · first | omega | (simp only [p6]; omega)
  refine WL.r 1 hs27 [] rfl (WL.nil (WC.seq (fun K28 hK28 => WC.seq (fun K29 hK29 => WC.rH hs27 hs27 (fun _ hs30 => ?_)))))
  refine WH.rn [0, 1, 2] hs30 [] rfl rfl (WH.split 58 rfl (fun g31 => ?_) (fun g31 => ?_))
  ·refine WH.takeSkip 3 rfl (by kernel_rfl) (wantNF rfl g31) rfl rfl hs30 (WH.takeSkip 5 rfl (by kernel_rfl) (wantNF rfl g31) rfl rfl hs30 (WH.takeSkip 6 rfl (by kernel_rfl) (wantNF rfl g31) rfl rfl hs30 (WH.takeSkip 7 rfl (by kernel_rfl) (wantNF rfl g31) rfl rfl hs30 (WH.takeSkip 8 rfl (by kernel_rfl) (wantNF rfl g31) rfl rfl hs30 (WH.takeSkip 9 rfl (by kernel_rfl) (wantNF rfl g31) rfl rfl hs30 (WH.takeSkip 10 rfl (by kernel_rfl) (wantNF rfl g31) rfl rfl hs30 (WH.o1 4 rfl ?_)))))))
   refine WL.skip (wantNF rfl g31) rfl rfl (WL.nil ⟨hs30, WH.o1 11 rfl (WL.skip (wantNF rfl g31) rfl rfl (WL.nil ⟨hs30, WH.takeSkip 12 rfl (by kernel_rfl) (wantNF rfl g31) rfl rfl hs30 ?_⟩))⟩)
   refine WH.take 13 rfl (by kernel_rfl) rfl rfl rfl hs30 (fun w_ hs_ => (Run.pickT rfl rfl g31 rfl)) ?_
   refine WH.dn (hK29 _ _ ?_)
   refine WC.cq rfl (fun h32 qh32 => ?_) (fun h32 qh32 => ?_)
   ·refine WC.r1 hs30 [] rfl (WC.ret (tkR ?_))
    clear hK28
    refine retV2 rfl (resV.tmp rfl) (resV.tmp rfl) (⟨congrArg Ending.returned ?_, hs30.nil⟩)
    have hno : runeL b = none := rread_no (by omega) hcl (fun r hr h1 h2 h3 => by
        have h9 := ‹(!tlOk ((b.drop 1).take (3 - 1))) = true›
        rw [h2] at h9; cases h9)
    rw [hno]; rfl
   refine WC.skip (hK28 _ _ (WC.r1 hs30 [] rfl (WC.ret (retV2 rfl (resV.tmp rfl) (resV.tmp rfl) (⟨congrArg Ending.returned ?_, hs30.nil⟩)))))
   cases h32
  refine WH.rnA (Acts.nil.cons (j := 2) rfl g31) [3, 5, 6, 7, 8, 9] hs30 [] rfl rfl ?_ (hS := ⟨by (first | omega | (simp only [p6]; omega)), trivial⟩)
  refine WH.take 10 rfl (by kernel_rfl) (wantF rfl g31) rfl rfl hs30 (fun w_ hs_ => (Run.sliceLH (0) (3) Tryd.runUnderlying22 Tryd.sizeOf5 rfl rfl rfl rfl ?_ ?_ ?_)) ?_
  · first | rfl | (first | omega | (simp only [p6]; omega))
  · first | rfl | (first | omega | (simp only [p6]; omega))
  · refine ⟨?_, ?_, ?_⟩ <;> (first | omega | (simp only [p6]; omega))
  refine WH.o1 4 rfl (WL.call (wantF rfl g31) rfl rfl (Run.call Tryd.call22 rfl rfl rfl) (k8_ _ _) ?_)
  rintro _ whs33 ⟨A34, c35, L1_36, rfl, hs33, ho37⟩
  replace hs33 := hs30.callF hs33
  refine ⟨_, rfl, WL.nil ⟨(hs33.rm L1_36), WH.o1 11 rfl ?_⟩⟩
  refine WL.call (wantF rfl g31) rfl rfl (Run.call Tryd.call71 rfl rfl rfl) (k10_ _ _ _ _ _ _ _ _ _ (SlF.ofOwn ho37 (hs33.ow L1_36)) (SlF.cutC (lo := 0) (hi := 3) (SlF.st0 f_b hs33) (by refine ⟨?_, ?_, ?_⟩ <;> (first | omega | (simp only [p6]; omega)))) ?_) ?_
  · exact Nat.le_trans (runeB_len _) (by decide)
  rintro _ whs38 ⟨rfl, hs38⟩
  replace hs38 := hs33.call0 hs38
  refine ⟨_, rfl, WL.nil ⟨(hs38.rm L1_36), WH.rnA (Acts.nil.cons (j := 2) rfl g31) [12] (hs38.rm L1_36) [] rfl rfl ?_⟩⟩
  refine WH.take 13 rfl (by kernel_rfl) rfl rfl rfl (hs38.rm L1_36) (fun w_ hs_ => (Run.pick rfl rfl rfl rfl)) ?_
  refine WH.dn (hK29 _ _ ?_)
  refine WC.cq rfl (fun h39 qh39 => ?_) (fun h39 qh39 => ?_)
  ·refine WC.r1 hs38 [] rfl (WC.ret (tkR ?_))
   clear hK28
   refine retV2 rfl (resV.tmp rfl) (resV.tmp rfl) (⟨congrArg Ending.returned ?_, hs38.nil⟩)
   have hrs := rsum_or (a := gat encB b 0) (t := ((b.drop 1).take (3 - 1))) (c := 3) (x := (((gat encB b 0).toNat : Int) - 224) * 2 ^ 12) (.inr (.inr ⟨rfl, by omega, rfl⟩)) (by rw [List.length_take, List.length_drop]; omega)
   have hq9 : (bif !tlOk ((b.drop 1).take (3 - 1)) then true else !decide (runeB (rsum (gat encB b 0) ((b.drop 1).take (3 - 1)) 3) = b.take 3)) = true := by rw [← hrs]; exact h39
   have hno : runeL b = none := rread_no (by omega) hcl (fun r hr h1 h2 h3 => by
       rw [h2] at hq9; subst hr; have h10 : runeB (rsum (gat encB b 0) ((b.drop 1).take (3 - 1)) 3) = b.take 3 := h3; rw [h10, decide_eq_true rfl] at hq9; cases hq9)
   rw [hno]; rfl
  refine WC.skip (hK28 _ _ (WC.r1 hs38 [] rfl (WC.ret (retV2 rfl (resV.tmp rfl) (resV.tmp rfl) (⟨congrArg Ending.returned ?_, hs38.nil⟩)))))
  have hrs := rsum_or (a := gat encB b 0) (t := ((b.drop 1).take (3 - 1))) (c := 3) (x := (((gat encB b 0).toNat : Int) - 224) * 2 ^ 12) (.inr (.inr ⟨rfl, by omega, rfl⟩)) (by rw [List.length_take, List.length_drop]; omega)
  have hq9 : (bif !tlOk ((b.drop 1).take (3 - 1)) then true else !decide (runeB (rsum (gat encB b 0) ((b.drop 1).take (3 - 1)) 3) = b.take 3)) = false := by rw [← hrs]; exact h39
  rcases h11 : tlOk ((b.drop 1).take (3 - 1)) with _ | _ <;> rw [h11] at hq9
  · cases hq9
  have hyes := rread_yes (by omega) hcl (by omega) h11 hrs (by rw [hrs]; by_cases h12 : runeB (rsum (gat encB b 0) ((b.drop 1).take (3 - 1)) 3) = b.take 3; exact h12; rw [decide_eq_false h12] at hq9; cases hq9)
  rw [hyes]; rfl
 have hcl : rcls (bat b 0) = 1 := by unfold rcls; rw [if_neg (by simp only [gat, bat] at *; omega), if_neg (by simp only [gat, bat] at *; omega)]
 refine WC.skip (hK5 _ _ (WC.seq (fun K40 hK40 => ?_)))
 refine WC.rr tbk hs23 [] rfl ⟨by first | omega | (simp only [p6]; omega), trivial⟩ (WC.cq rfl (fun h41 qh41 => ?_) (fun h41 qh41 => ?_))
 ·refine WC.r1 hs23 [] rfl (WC.ret (tkR ?_))
  clear hK40
  refine retV2 rfl (resV.tmp rfl) (resV.tmp rfl) (⟨congrArg Ending.returned ?_, hs23.nil⟩)
  have hno : runeL b = none := rread_no (by omega) hcl (fun r hr h1 h2 h3 => by
      omega)
  rw [hno]; rfl
 refine WC.skip (hK40 _ _ (WC.sr ?_))
 refine WL.run tbk 6 hs23 [] rfl ⟨by first | omega | (simp only [p6]; omega), by first | omega | (simp only [p6]; omega), trivial⟩ (WL.val rfl rfl rfl (Run.sliceLH (1) (1) Tryd.runUnderlying22 Tryd.sizeOf5 rfl rfl rfl rfl ?_ ?_ ?_) ?_)
 · first | rfl | (first | omega | (simp only [p6]; omega))
 · first | rfl | (first | omega | (simp only [p6]; omega))
 · refine ⟨?_, ?_, ?_⟩ <;> (first | omega | (simp only [p6]; omega))
 refine WL.cl Tryd.call37 rfl (k7_ _ _ _ _ _ (SlF.cutC (lo := 1) (hi := 1) (SlF.st0 f_b hs23) (by refine ⟨?_, ?_, ?_⟩ <;> (first | omega | (simp only [p6]; omega)))) ?_) ?_
 · first | assumption | rfl | omega
 rintro _ whs42 ⟨rfl, hs42⟩
 replace hs42 := hs23.call0 hs42
 refine ⟨_, rfl, WL.r 3 hs42 [] rfl ?_⟩
 have htv := tlV_bnd (l := (b.drop 1).take (1 - 1)) (by rw [List.length_take, List.length_drop]; omega)
 refine WL.r 2 hs42 [] rfl (WL.nil (WC.sr ?_))
 refine WL.run tbk 4 hs42 [] rfl ⟨by first | omega | (simp only [p6]; omega), by first | omega | (simp only [p6]; omega), trivial⟩ (WL.val rfl rfl rfl (Run.shl rfl rfl rfl ?_ ?_ ?_) ?_)
 · first | omega | (simp only [p6]; omega)
 · first | omega | (simp only [p6]; omega)
 · simp only [p6]; constructor <;> omega
 refine WL.r 1 hs42 [] rfl (WL.val rfl rfl rfl (Run.or rfl rfl rfl ?_ ?_ ?_ ?_) ?_)
 · first | omega | (simp only [p6]; omega)
 · first | omega | (simp only [p6]; omega)
 · first | omega | (simp only [p6]; omega)
 · first | omega | (simp only [p6]; omega)
 refine WL.r 1 hs42 [] rfl (WL.nil (WC.seq (fun K43 hK43 => WC.seq (fun K44 hK44 => WC.rH hs42 hs42 (fun _ hs45 => ?_)))))
 refine WH.rn [0, 1, 2] hs45 [] rfl rfl (WH.split 58 rfl (fun g46 => ?_) (fun g46 => ?_))
 ·refine WH.takeSkip 3 rfl (by kernel_rfl) (wantNF rfl g46) rfl rfl hs45 (WH.takeSkip 5 rfl (by kernel_rfl) (wantNF rfl g46) rfl rfl hs45 (WH.takeSkip 6 rfl (by kernel_rfl) (wantNF rfl g46) rfl rfl hs45 (WH.takeSkip 7 rfl (by kernel_rfl) (wantNF rfl g46) rfl rfl hs45 (WH.takeSkip 8 rfl (by kernel_rfl) (wantNF rfl g46) rfl rfl hs45 (WH.takeSkip 9 rfl (by kernel_rfl) (wantNF rfl g46) rfl rfl hs45 (WH.takeSkip 10 rfl (by kernel_rfl) (wantNF rfl g46) rfl rfl hs45 (WH.o1 4 rfl ?_)))))))
  refine WL.skip (wantNF rfl g46) rfl rfl (WL.nil ⟨hs45, WH.o1 11 rfl (WL.skip (wantNF rfl g46) rfl rfl (WL.nil ⟨hs45, WH.takeSkip 12 rfl (by kernel_rfl) (wantNF rfl g46) rfl rfl hs45 ?_⟩))⟩)
  refine WH.take 13 rfl (by kernel_rfl) rfl rfl rfl hs45 (fun w_ hs_ => (Run.pickT rfl rfl g46 rfl)) ?_
  refine WH.dn (hK44 _ _ ?_)
  refine WC.cq rfl (fun h47 qh47 => ?_) (fun h47 qh47 => ?_)
  ·refine WC.r1 hs45 [] rfl (WC.ret (tkR ?_))
   clear hK43
   refine retV2 rfl (resV.tmp rfl) (resV.tmp rfl) (⟨congrArg Ending.returned ?_, hs45.nil⟩)
   have hno : runeL b = none := rread_no (by omega) hcl (fun r hr h1 h2 h3 => by
       have h9 := ‹(!tlOk ((b.drop 1).take (1 - 1))) = true›
       rw [h2] at h9; cases h9)
   rw [hno]; rfl
  refine WC.skip (hK43 _ _ (WC.r1 hs45 [] rfl (WC.ret (retV2 rfl (resV.tmp rfl) (resV.tmp rfl) (⟨congrArg Ending.returned ?_, hs45.nil⟩)))))
  cases h47
 refine WH.rnA (Acts.nil.cons (j := 2) rfl g46) [3, 5, 6, 7, 8, 9] hs45 [] rfl rfl ?_ (hS := ⟨by (first | omega | (simp only [p6]; omega)), trivial⟩)
 refine WH.take 10 rfl (by kernel_rfl) (wantF rfl g46) rfl rfl hs45 (fun w_ hs_ => (Run.sliceLH (0) (1) Tryd.runUnderlying22 Tryd.sizeOf5 rfl rfl rfl rfl ?_ ?_ ?_)) ?_
 · first | rfl | (first | omega | (simp only [p6]; omega))
 · first | rfl | (first | omega | (simp only [p6]; omega))
 · refine ⟨?_, ?_, ?_⟩ <;> (first | omega | (simp only [p6]; omega))
 refine WH.o1 4 rfl (WL.call (wantF rfl g46) rfl rfl (Run.call Tryd.call22 rfl rfl rfl) (k8_ _ _) ?_)
 rintro _ whs48 ⟨A49, c50, L1_51, rfl, hs48, ho52⟩
 replace hs48 := hs45.callF hs48
 refine ⟨_, rfl, WL.nil ⟨(hs48.rm L1_51), WH.o1 11 rfl ?_⟩⟩
 refine WL.call (wantF rfl g46) rfl rfl (Run.call Tryd.call71 rfl rfl rfl) (k10_ _ _ _ _ _ _ _ _ _ (SlF.ofOwn ho52 (hs48.ow L1_51)) (SlF.cutC (lo := 0) (hi := 1) (SlF.st0 f_b hs48) (by refine ⟨?_, ?_, ?_⟩ <;> (first | omega | (simp only [p6]; omega)))) ?_) ?_
 · exact Nat.le_trans (runeB_len _) (by decide)
 rintro _ whs53 ⟨rfl, hs53⟩
 replace hs53 := hs48.call0 hs53
 refine ⟨_, rfl, WL.nil ⟨(hs53.rm L1_51), WH.rnA (Acts.nil.cons (j := 2) rfl g46) [12] (hs53.rm L1_51) [] rfl rfl ?_⟩⟩
 refine WH.take 13 rfl (by kernel_rfl) rfl rfl rfl (hs53.rm L1_51) (fun w_ hs_ => (Run.pick rfl rfl rfl rfl)) ?_
 refine WH.dn (hK44 _ _ ?_)
 refine WC.cq rfl (fun h54 qh54 => ?_) (fun h54 qh54 => ?_)
 ·refine WC.r1 hs53 [] rfl (WC.ret (tkR ?_))
  clear hK43
  refine retV2 rfl (resV.tmp rfl) (resV.tmp rfl) (⟨congrArg Ending.returned ?_, hs53.nil⟩)
  have hrs := rsum_or (a := gat encB b 0) (t := ((b.drop 1).take (1 - 1))) (c := 1) (x := ((gat encB b 0).toNat : Int) * 2 ^ 0) (.inl ⟨rfl, rfl⟩) (by rw [List.length_take, List.length_drop]; omega)
  have hq9 : (bif !tlOk ((b.drop 1).take (1 - 1)) then true else !decide (runeB (rsum (gat encB b 0) ((b.drop 1).take (1 - 1)) 1) = b.take 1)) = true := by rw [← hrs]; exact h54
  have hno : runeL b = none := rread_no (by omega) hcl (fun r hr h1 h2 h3 => by
      rw [h2] at hq9; subst hr; have h10 : runeB (rsum (gat encB b 0) ((b.drop 1).take (1 - 1)) 1) = b.take 1 := h3; rw [h10, decide_eq_true rfl] at hq9; cases hq9)
  rw [hno]; rfl
 refine WC.skip (hK43 _ _ (WC.r1 hs53 [] rfl (WC.ret (retV2 rfl (resV.tmp rfl) (resV.tmp rfl) (⟨congrArg Ending.returned ?_, hs53.nil⟩)))))
 have hrs := rsum_or (a := gat encB b 0) (t := ((b.drop 1).take (1 - 1))) (c := 1) (x := ((gat encB b 0).toNat : Int) * 2 ^ 0) (.inl ⟨rfl, rfl⟩) (by rw [List.length_take, List.length_drop]; omega)
 have hq9 : (bif !tlOk ((b.drop 1).take (1 - 1)) then true else !decide (runeB (rsum (gat encB b 0) ((b.drop 1).take (1 - 1)) 1) = b.take 1)) = false := by rw [← hrs]; exact h54
 rcases h11 : tlOk ((b.drop 1).take (1 - 1)) with _ | _ <;> rw [h11] at hq9
 · cases hq9
 have hyes := rread_yes (by omega) hcl (by omega) h11 hrs (by rw [hrs]; by_cases h12 : runeB (rsum (gat encB b 0) ((b.drop 1).take (1 - 1)) 1) = b.take 1; exact h12; rw [decide_eq_false h12] at hq9; cases hq9)
 rw [hyes]; rfl
theorem k14_ (A_b : Option Addr) (n_b c_b : Nat) (b : List UInt8) (w : World) (f_b : SlF encB w A_b n_b b) (hc : n_b ≤ c_b) (hn : n_b ≤ 549755813888) :
    Calls Tryd.prog 67 #[.slice A_b n_b c_b, i64 0] w fun e w' => e = .returned (.tuple #[.int .i64 (rvN (runeL b)), .int .i64 (rvS (runeL b) : Nat)]) ∧ St w [] [] w' := by
 have hbl := f_b.len
 have hb0 := (gat encB b 0).toNat_lt
 have hb0' : (gat encB b (Int.toNat 0)).toNat < 2 ^ 8 := hb0
 refine enter 76 Tryd.func67 rfl Tryd.ntmps67 rfl rfl ?_
 have hs1 := St.init w
 refine WC.r1 hs1 [] rfl (WC.seq (fun K2 hK2 => WC.sr (WL.r 3 hs1 [] rfl (WL.pO tbk 4 Acts.nil hs1 [] rfl rfl rfl rfl (fun g_ => trivial) (WL.nil ?_)))))
 refine WC.cq rfl (fun h3 qh3 => ?_) (fun h3 qh3 => ?_)
 ·refine WC.r1 hs1 [] rfl (WC.ret (tkR ?_))
  clear hK2
  refine retV2 rfl (resV.tmp rfl) (resV.tmp rfl) (⟨congrArg Ending.returned ?_, hs1.nil⟩)
  have h0 : b = [] := List.eq_nil_of_length_eq_zero (by simp at qh3; omega)
  subst h0
  rw [runeL_nil]; rfl
 refine WC.skip (hK2 _ _ (WC.seq (fun K4 hK4 => WC.r1 hs1 [] rfl (WC.block ?_))))
 refine WC.lS [0, 1, 17] rfl hs1 (fun k_ f w' => ∃ (s : Nat), k_ = 4 - s ∧ (1 ≤ s) ∧ (s ≤ 4) ∧ (∀ t, 1 ≤ t → t < s → rtry b t = false) ∧ Sub [(6, .int .i64 s)] f) ((fun (s : Nat) => 4 - s) (1)) ?_ ?_
 ·refine ⟨1, rfl, ?_, ?_, ?_, ⟨rfl, trivial⟩⟩
  · omega
  · omega
  · intro t h1 h2; omega
 clear hs1
 rintro _ f w ⟨s, rfl, p0, p1, p2, hG⟩ hF hs5
 refine WC.sub _ (hG.app hF) ?_
 clear hG hF
 have ht4 := t4_bnd s
 refine WC.seq (fun K6 hK6 => WC.sr (WL.r 3 hs5 [] rfl ?_))
 refine WL.pA tbk 6 Acts.nil hs5 [] rfl rfl rfl rfl (fun g_ => by (try simp only [bf, within_iff, within_not] at g_); exact ⟨by omega, trivial⟩) (WL.nil (WC.cq rfl (fun h7 qh7 => ?_) (fun h7 qh7 => ?_)))
 ·refine WC.skip (hK6 _ _ (WC.seq (fun K8 hK8 => WC.block (WC.seq (fun K9 hK9 => WC.rH hs5 hs5 (fun _ hs10 => ?_))))))
  refine WH.rn [0, 1] hs10 [] rfl rfl ?_
  refine WH.take 2 rfl (by kernel_rfl) rfl rfl rfl hs10 (fun w_ hs_ => (Run.idx Tryd.runUnderlying22 Tryd.sizeOf5 rfl rfl rfl ?_ ?_ ?_)) ?_
  · exact SlF.some_ (SlF.st0 f_b (hs_ : St _ _ _ _))
  · first | omega | (simp; omega)
  · first | omega | (simp; omega)
  refine WH.take 3 rfl (by kernel_rfl) rfl rfl rfl hs10 (fun w_ hs_ => (Run.load Tryd.isAgg5 rfl rfl (SlF.one1 (SlF.st0 f_b (hs_ : St _ _ _ _)) ?_ rfl))) ?_
  · first | omega | (simp; omega)
  refine WH.rn [4, 6] hs10 [] rfl rfl (WH.o1 5 rfl (WL.buildF (F := encI) hs10 ([0, 0, 192, 224]) Tryd.runUnderlying24 Tryd.sizeOf3 Tryd.zeroValue3 rfl rfl rfl rfl rfl rfl rfl rfl rfl rfl rfl rfl (fun A14 c15 L11 whs12 hs12 ho13 => WL.nil ⟨(hs12.rm L11), ?_⟩)))
  refine WH.strS hs12 (fun w_ h_ => (h_.rm L11)) ?_
  refine WH.take 7 rfl (by kernel_rfl) rfl rfl rfl hs12 (fun w_ hs_ => (Run.idxN Tryd.runUnderlying24 Tryd.sizeOf3 rfl rfl rfl ?_ ?_ ?_)) ?_
  · exact SlF.some_ (SlF.ofOwn ho13 ((hs_ : St _ _ _ _).ow L11))
  · first | omega | (simp; omega)
  · first | omega | (simp; omega)
  refine WH.take 8 rfl (by kernel_rfl) rfl rfl rfl hs12 (fun w_ hs_ => (Run.load Tryd.isAgg3 rfl rfl (SlF.one1 (SlF.ofOwn ho13 ((hs_ : St _ _ _ _).ow L11)) ?_ rfl))) ?_
  · first | omega | (simp; omega)
  refine WH.rn [9, 10] hs12 [] rfl rfl (WH.dn (hK9 _ _ (WC.seq (fun K16 hK16 => WC.r1 hs12 [] rfl (WC.block ?_)))))
  refine WC.lS [0, 1, 6, 17, 18, 19, 20, 27, 30, 31, 32, 33, 34, 35, 36, 37, 38, 39] rfl hs12 (fun k_ f w' => ∃ (i : Nat), k_ = s - i ∧ (1 ≤ i) ∧ (i ≤ s) ∧ Sub [(8, .int .i64 i), (7, .int .i64 (candI b s (i - 1)))] f) ((fun (i : Nat) => s - i) (1)) ?_ ?_
  ·refine ⟨1, rfl, ?_, ?_, ⟨rfl, ?_, trivial⟩⟩
   · omega
   · omega
   · rfl
  clear hs12
  rintro _ f w ⟨i, rfl, p0, p1, hG⟩ hF hs17
  refine WC.sub _ (hG.app hF) ?_
  clear hG hF
  have hcb := candI_bnd (l := b) (s := s) (i := i - 1) (by omega)
  have hbi := (gat encB b i).toNat_lt
  have hbz : (gat encB b ((0 : Int) + (i : Int)).toNat).toNat < 2 ^ 8 := (gat encB b _).toNat_lt
  refine WC.seq (fun K18 hK18 => WC.r1 hs17 [] rfl ?_)
  refine WC.cD rfl (fun qh19 => ?_) (fun qh19 => ?_)
  ·refine WC.skip (hK18 _ _ (WC.seq (fun K20 hK20 => WC.block (WC.region (WL.r 6 hs17 [] rfl ?_)))))
   refine WL.val rfl rfl rfl (Run.idx Tryd.runUnderlying22 Tryd.sizeOf5 rfl rfl rfl ?_ ?_ ?_) ?_
   · exact SlF.some_ (SlF.st0 f_b hs17)
   · first | omega | (simp; omega)
   · first | omega | (simp; omega)
   refine WL.val rfl rfl rfl (Run.load Tryd.isAgg5 rfl rfl (SlF.one1 (SlF.st0 f_b hs17) ?_ rfl)) ?_
   · first | omega | (simp; omega)
   refine WL.r 4 hs17 [] rfl (WL.nil (hK20 _ _ (WC.region (WL.r 3 hs17 [] rfl (WL.nil (tkN ?_))))))
   refine ⟨sbF rfl, hs17, _, ?_, i + 1, rfl, ?_, ?_, ⟨rfl, ?_, trivial⟩⟩
   · omega
   · omega
   · omega
   · refine congrArg some (congrArg (Value.int _) ?_); have h9 := candI_next (l := b) (s := s) (i := i) (by omega); rw [h9]; simp
  refine WC.exit (hK16 _ _ (WC.sr (WL.r 1 hs17 [] rfl (WL.cl Tryd.call28 rfl (k9_ _ _) ?_))))
  rintro _ whs21 ⟨A22, c23, L1_24, rfl, hs21, ho25⟩
  replace hs21 := hs17.callF hs21
  refine ⟨_, rfl, WL.r 1 hs21 [] rfl (WL.nil (WC.sq1 hs21 (WQ.r 5 [] rfl ?_)))⟩
  apply WQ.gA 10 Acts.nil rfl
  ·intro g26 J27
   have qg26 := g26
   try simp only [bf, within_iff, within_not] at qg26
   refine WQ.runA tbk 1 (Acts.nil.cons (j := 4) rfl g26) [] rfl trivial ?_
   refine WQ.val (wantT rfl g26) rfl rfl (fun w_ hs_ => (Run.strOf (SlF.ofOwn ho25 ((hs_ : St _ _ _ _).ow L1_24)) Tryd.underlying22 Tryd.underlying5 Tryd.underlying9 rfl rfl)) ?_
   refine WQ.runA tbk 5 (Acts.nil.cons (j := 4) rfl g26) [] rfl ⟨by omega, trivial⟩ ?_
   refine WQ.val (wantT rfl g26) rfl rfl (fun w_ hs_ => (Run.sliceLH (0) (s) Tryd.runUnderlying22 Tryd.sizeOf5 rfl rfl rfl rfl ?_ ?_ ?_)) ?_
   · first | rfl | (omega)
   · first | rfl | (omega)
   · refine ⟨?_, ?_, ?_⟩ <;> (omega)
   refine WQ.val (wantT rfl g26) rfl rfl (fun w_ hs_ => (Run.strOf (SlF.cutC (lo := 0) (hi := s) (SlF.st0 f_b (hs_ : St _ _ _ _)) (by refine ⟨?_, ?_, ?_⟩ <;> (omega))) Tryd.underlying22 Tryd.underlying5 Tryd.underlying9 rfl rfl)) ?_
   refine WQ.runA tbk 1 (Acts.nil.cons (j := 4) rfl g26) [] rfl trivial (WQ.eA 10 Acts.nil J27 g26 rfl rfl)
  refine WQ.nil (fun _ (hs28 : St _ _ _ _) => ?_)
  refine WC.cq rfl (fun h29 qh29 => ?_) (fun h29 qh29 => ?_)
  ·refine WC.r1 hs28 [] rfl (WC.ret (ibR (tkR (tkR (ibR (tkR ?_))))))
   clear hK8 hK4
   refine retV2 rfl (resV.tmp rfl) (resV.tmp rfl) (⟨congrArg Ending.returned ?_, hs28.nil⟩)
   obtain rfl : i = s := by omega
   have hok : rtry b i = true := by rw [← rtry_iff (by omega), ← candI_cand (by omega) (by omega) (by omega)]; simpa [Int.ofNat_inj] using qh29
   rw [runeL_at hok p0 (by omega) p2, ← candI_cand (by omega) (by omega) (by omega)]; rfl
  refine WC.skip (hK8 _ _ (WC.region (WL.r 3 hs28 [] rfl (WL.nil (tkN ?_)))))
  refine ⟨sbF rfl, (hs28.drop (by repeat (first | exact List.Sublist.refl _ | exact List.sublist_append_left _ _ | exact List.Sublist.trans (List.sublist_append_left _ _) (List.sublist_append_left _ _) | apply List.Sublist.cons | refine List.Sublist.trans ?_ (sR _)))), _, ?_, s + 1, rfl, ?_, ?_, ?_, ⟨rfl, trivial⟩⟩
  · omega
  · omega
  · omega
  · intro t h1 h2; rcases Nat.lt_or_ge t s with h3 | h3
    · exact p2 t h1 h3
    obtain rfl : t = s := by omega
    obtain rfl : i = t := by omega
    rw [← rtry_iff (by omega), ← candI_cand (by omega) (by omega) (by omega)]; simpa [Int.ofNat_inj] using qh29
 refine WC.exit (hK4 _ _ (WC.r1 hs5 [] rfl (WC.ret (retV2 rfl (resV.tmp rfl) (resV.tmp rfl) (⟨congrArg Ending.returned ?_, hs5.nil⟩)))))
 have hno : runeL b = none := runeL_none (fun t h1 h3 => by
     rcases Nat.lt_or_ge t s with h4 | h4
     · exact p2 t h1 h4
     · exact rtry_len (by simp at qh7; omega))
 rw [hno]; rfl
theorem k15_ (A_b : Option Addr) (n_b c_b : Nat) (b : List UInt8) (w : World) (f_b : SlF encB w A_b n_b b) (hc : n_b ≤ c_b) (hn : n_b ≤ 549755813888) :
    Calls Tryd.prog 18 #[.slice A_b n_b c_b] w fun e w' => e = .returned (.bool (runeBeg b)) ∧ St w [] [] w' := by
 have hbl := f_b.len
 have hb0 : (gat encB b (Int.toNat 0)).toNat < 2 ^ 8 := (gat encB b 0).toNat_lt
 refine enter 47 Tryd.func18 rfl Tryd.ntmps18 rfl rfl ?_
 have hs1 := St.init w
 refine WC.r1 hs1 [] rfl (WC.seq (fun K2 hK2 => WC.r1 hs1 [] rfl (WC.block (WC.r1 hs1 [] rfl ?_))))
 refine WC.cD rfl (fun qh3 => ?_) (fun qh3 => ?_)
 ·refine WC.sr (WL.r 1 hs1 [] rfl (WL.val rfl rfl rfl (Run.idx Tryd.runUnderlying22 Tryd.sizeOf5 rfl rfl rfl ?_ ?_ ?_) ?_))
  · exact SlF.some_ (SlF.st0 f_b hs1)
  · omega
  · omega
  refine WL.val rfl rfl rfl (Run.load Tryd.isAgg5 rfl rfl (SlF.one1 (SlF.st0 f_b hs1) ?_ rfl)) ?_
  · omega
  refine WL.r 1 hs1 [] rfl (WL.cl Tryd.call23 rfl (k0_ _ _ _ _) ?_)
  rintro _ whs4 ⟨rfl, hs4⟩
  replace hs4 := hs1.call0 hs4
  refine ⟨_, rfl, WL.r 1 hs4 [] rfl (WL.nil (WC.ret (ibR (tkR ?_))))⟩
  clear hK2
  refine rtv rfl rfl hs4 ?_
  obtain ⟨x, rfl⟩ : ∃ x, b = [x] := List.length_eq_one_iff.1 (by omega)
  rfl
 refine WC.r1 hs1 [] rfl (WC.cD rfl (fun qh5 => ?_) (fun qh5 => ?_))
 ·have htl := tlV_bnd (l := b.drop 1) (by rw [List.length_drop]; omega)
  refine WC.sr (WL.r 1 hs1 [] rfl (WL.val rfl rfl rfl (Run.sliceL (1) Tryd.runUnderlying22 Tryd.sizeOf5 rfl rfl rfl ?_ ?_) ?_))
  · first | rfl | (omega)
  · refine ⟨?_, ?_, ?_⟩ <;> (omega)
  refine WL.cl Tryd.call37 rfl (k7_ _ _ _ _ _ (SlF.cutL (1) (SlF.st0 f_b hs1) (by refine ⟨?_, ?_, ?_⟩ <;> (omega))) ?_) ?_
  · first | assumption | rfl | omega
  rintro _ whs6 ⟨rfl, hs6⟩
  replace hs6 := hs1.call0 hs6
  refine ⟨_, rfl, WL.r 5 hs6 [] rfl (WL.nil (WC.sr (WL.r 1 hs6 [] rfl (WL.val rfl rfl rfl (Run.idx Tryd.runUnderlying22 Tryd.sizeOf5 rfl rfl rfl ?_ ?_ ?_) ?_))))⟩
  · exact SlF.some_ (SlF.st0 f_b hs6)
  · omega
  · omega
  refine WL.val rfl rfl rfl (Run.load Tryd.isAgg5 rfl rfl (SlF.one1 (SlF.st0 f_b hs6) ?_ rfl)) ?_
  · omega
  refine WL.r 7 hs6 [] rfl (WL.nil (WC.sr (WL.r 2 hs6 [] rfl ?_)))
  apply WL.gA 4 Acts.nil hs6 rfl
  ·intro g7 J8
   have qg7 := g7
   try simp only [bf, within_iff, within_not] at qg7
   refine WL.runA tbk 1 (Acts.nil.cons (j := 1) rfl g7) hs6 [] rfl trivial (WL.val (wantT rfl g7) rfl rfl (Run.idx Tryd.runUnderlying22 Tryd.sizeOf5 rfl rfl rfl ?_ ?_ ?_) ?_)
   · exact SlF.some_ (SlF.st0 f_b hs6)
   · omega
   · omega
   refine WL.val (wantT rfl g7) rfl rfl (Run.load Tryd.isAgg5 rfl rfl (SlF.one1 (SlF.st0 f_b hs6) ?_ rfl)) ?_
   · omega
   refine WL.runA tbk 1 (Acts.nil.cons (j := 1) rfl g7) hs6 [] rfl trivial (WL.eA 4 Acts.nil J8 hs6 g7 rfl rfl)
  intro _ hs9
  refine WL.r 1 hs9 [] rfl (WL.pA tbk 2 Acts.nil hs9 [] rfl rfl rfl rfl (fun g_ => trivial) (WL.r 1 hs9 [] rfl ?_))
  apply WL.gA 2 Acts.nil hs9 rfl
  ·intro g10 J11
   have qg10 := g10
   try simp only [bf, within_iff, within_not] at qg10
   refine WL.runA tbk 1 (Acts.nil.cons (j := 11) rfl g10) hs9 [] rfl trivial (WL.call (wantT rfl g10) rfl rfl (Run.call Tryd.call38 rfl rfl rfl) (k5_ _ _) ?_)
   rintro _ whs12 ⟨rfl, hs12⟩
   replace hs12 := hs9.call0 hs12
   refine ⟨_, rfl, WL.eA 2 Acts.nil J11 hs12 g10 rfl rfl⟩
  intro _ hs13
  refine WL.r 1 hs13 [] rfl (WL.nil (WC.ret (ibR (tkR ?_))))
  clear hK2
  refine retV1 rfl (resV.tmp rfl) (⟨congrArg Ending.returned (congrArg Value.bool (beg_two (by omega))), hs13.nil⟩)
 refine WC.skip (hK2 _ _ (WC.r1 hs1 [] rfl (WC.ret (rtv rfl rfl hs1 ?_))))
 have h9 : ¬ (b.length = 1 ∨ b.length = 2) := by omega
 rw [beg_len h9]
theorem k16_ (A_b : Option Addr) (n_b c_b : Nat) (b : List UInt8) (w : World) (f_b : SlF encB w A_b n_b b) (hc : n_b ≤ c_b) (hn : n_b ≤ 549755813888) :
    Calls Tryd.prog 58 #[.slice A_b n_b c_b] w fun e w' => e = .returned (.bool (runeBeg b)) ∧ St w [] [] w' := by
 have hbl := f_b.len
 refine enter 53 Tryd.func58 rfl Tryd.ntmps58 rfl rfl ?_
 have hs1 := St.init w
 refine WC.r1 hs1 [] rfl (WC.seq (fun K2 hK2 => WC.sr (WL.r 4 hs1 [] rfl (WL.pO tbk 3 Acts.nil hs1 [] rfl rfl rfl rfl (fun g_ => trivial) (WL.nil ?_)))))
 refine WC.cq rfl (fun h3 qh3 => ?_) (fun h3 qh3 => ?_)
 ·refine WC.r1 hs1 [] rfl (WC.ret (tkR ?_))
  clear hK2
  refine rtv rfl rfl hs1 ?_
  have h9 : ¬ (b.length = 1 ∨ b.length = 2) := by simp at qh3; omega
  rw [beg_len h9]
 have hl : b.length = 1 ∨ b.length = 2 := by simp at qh3; omega
 refine WC.skip (hK2 _ _ (WC.seq (fun K4 hK4 => WC.r1 hs1 [] rfl (WC.block ?_))))
 refine WC.lS [0, 17] rfl hs1 (fun k_ f w' => ∃ (x : Nat), k_ = 192 - x ∧ (128 ≤ x) ∧ (x ≤ 192) ∧ (∀ y : Nat, 128 ≤ y → y < x → begHit b (ub y) = false) ∧ Sub [(3, .int .i64 x)] f) ((fun (x : Nat) => 192 - x) (128)) ?_ ?_
 ·refine ⟨128, rfl, ?_, ?_, ?_, ⟨rfl, trivial⟩⟩
  · omega
  · omega
  · intro y h1 h2; omega
 clear hs1
 rintro _ f w ⟨x, rfl, p0, p1, p2, hG⟩ hF hs5
 refine WC.sub _ (hG.app hF) ?_
 clear hG hF
 refine WC.seq (fun K6 hK6 => WC.r1 hs5 [] rfl ?_)
 refine WC.cD rfl (fun qh7 => ?_) (fun qh7 => ?_)
 ·refine WC.skip (hK6 _ _ (WC.seq (fun K8 hK8 => WC.block (WC.sr (WL.buildF (F := encB) hs5 ([]) Tryd.runUnderlying22 Tryd.sizeOf5 Tryd.zeroValue5 rfl rfl rfl rfl rfl rfl rfl rfl rfl rfl rfl rfl (fun A12 c13 L9 whs10 hs10 ho11 => WL.r 1 hs10 [] rfl ?_))))))
  refine WL.appendG hs10 ho11 (SlF.src (SlF.st0 f_b hs10) Tryd.underlying22) Tryd.underlying22 inf5 rfl rfl rfl rfl rfl rfl rfl rfl rfl rfl ?_ (fun A17 c18 L14 whs15 hs15 ho16 => ?_)
  · simp; omega
  refine WL.r 2 hs15 [] rfl (WL.buildSlice hs15 Tryd.runUnderlying22 Tryd.sizeOf5 Tryd.zeroValue5 rfl rfl rfl rfl rfl rfl rfl rfl rfl rfl (fun b19 whs20 hs20 => ?_))
  refine WL.appendG (hs20.fr L14) ho16 (srcB1 Tryd.underlying22 (hs20.own _ (nthL_mem (i := 0) rfl)).1) Tryd.underlying22 inf5 rfl rfl rfl rfl rfl rfl rfl rfl rfl rfl ?_ (fun A24 c25 L21 whs22 hs22 ho23 => ?_)
  · simp; omega
  replace hs22 := St.back [_] hs22
  refine WL.r 1 hs22 [] rfl (WL.nil (WC.sr (WL.r 1 hs22 [] rfl (WL.cl Tryd.call67 rfl (k14_ _ _ _ _ _ (SlF.ofOwn ho23 (hs22.ow L21)) (OwnF.cap ho23) ?_) ?_))))
  · first | assumption | rfl | omega | (simp; omega)
  rintro _ whs26 ⟨rfl, hs26⟩
  replace hs26 := hs22.call0 hs26
  refine ⟨_, rfl, WL.r 5 hs26 [] rfl (WL.nil (WC.seq (fun K27 hK27 => WC.r1 hs26 [] rfl ?_)))⟩
  refine WC.cD rfl (fun qh28 => ?_) (fun qh28 => ?_)
  ·refine WC.r1 hs26 [] rfl (WC.ret (tkR (ibR (tkR (tkR (ibR (tkR ?_)))))))
   clear hK27 hK8 hK4
   refine rtv rfl rfl hs26 ?_
   rw [beg_yes hl p0 (by omega) (by unfold begHit; rw [decide_eq_true (by simpa [← Int.ofNat_inj] using qh28)]; rfl)]
  have e1 : ¬ rvS (runeL (b ++ [ub x])) = b.length + 1 := by simpa [← Int.ofNat_inj] using qh28
  refine WC.skip (hK27 _ _ (WC.r1 hs26 [] rfl ?_))
  refine WC.cD rfl (fun qh29 => ?_) (fun qh29 => ?_)
  ·refine WC.sr (WL.buildF (F := encB) hs26 ([]) Tryd.runUnderlying22 Tryd.sizeOf5 Tryd.zeroValue5 rfl rfl rfl rfl rfl rfl rfl rfl rfl rfl rfl rfl (fun A33 c34 L30 whs31 hs31 ho32 => ?_))
   replace hs31 := St.back [_] hs31
   refine WL.r 1 hs31 [] rfl (WL.appendG (hs31.fr L30) ho32 (SlF.src (SlF.ofOwn ho23 (hs31.ow L21)) Tryd.underlying22) Tryd.underlying22 inf5 rfl rfl rfl rfl rfl rfl rfl rfl rfl rfl ?_ (fun A38 c39 L35 whs36 hs36 ho37 => ?_))
   · simp; omega
   replace hs36 := St.back [_] hs36
   refine WL.buildSlice hs36 Tryd.runUnderlying22 Tryd.sizeOf5 Tryd.zeroValue5 rfl rfl rfl rfl rfl rfl rfl rfl rfl rfl (fun b40 whs41 hs41 => ?_)
   refine WL.appendG (hs41.fr L35) ho37 (srcF (F := encB) (ys := [129]) Tryd.underlying22 rfl rfl (hs41.own _ (nthL_mem (i := 0) rfl)).1) Tryd.underlying22 inf5 rfl rfl rfl rfl rfl rfl rfl rfl rfl rfl ?_ (fun A45 c46 L42 whs43 hs43 ho44 => ?_)
   · simp; omega
   replace hs43 := St.back [_, _] hs43
   refine WL.r 1 hs43 [] rfl (WL.nil (WC.sr (WL.r 1 hs43 [] rfl (WL.cl Tryd.call67 rfl (k14_ _ _ _ _ _ (SlF.ofOwn ho44 (hs43.ow L42)) (OwnF.cap ho44) ?_) ?_))))
   · first | assumption | rfl | omega | (simp; omega)
   rintro _ whs47 ⟨rfl, hs47⟩
   replace hs47 := hs43.call0 hs47
   refine ⟨_, rfl, WL.r 5 hs47 [] rfl (WL.nil (WC.r1 hs47 [] rfl (WC.cD rfl (fun qh48 => ?_) (fun qh48 => ?_))))⟩
   ·refine WC.r1 hs47 [] rfl (WC.ret (ibR (tkR (tkR (ibR (tkR ?_))))))
    clear hK8 hK4
    refine rtv rfl rfl hs47 ?_
    rw [beg_yes hl p0 (by omega) (by unfold begHit; rw [decide_eq_true (show b.length = 1 by omega), decide_eq_true (show rvS (runeL (b ++ [ub x, 129])) = 3 by simp at qh48; omega)]; simp)]
   have e2 : b.length = 1 → ¬ rvS (runeL (b ++ [ub x, 129])) = 3 := fun _ => by simp at qh48; omega
   refine WC.skip (hK8 _ _ (WC.region (WL.r 3 hs47 [] rfl (WL.nil (tkN ?_)))))
   refine ⟨sbF rfl, (hs47.drop (by repeat (first | exact List.Sublist.refl _ | exact List.sublist_append_left _ _ | exact List.Sublist.trans (List.sublist_append_left _ _) (List.sublist_append_left _ _) | apply List.Sublist.cons | refine List.Sublist.trans ?_ (sR _)))), _, ?_, x + 1, rfl, ?_, ?_, ?_, ⟨rfl, trivial⟩⟩
   · omega
   · omega
   · omega
   · intro y h1 h2; rcases Nat.lt_or_ge y x with h3 | h3
     · exact p2 y h1 h3
     obtain rfl : y = x := by omega
     unfold begHit; rw [decide_eq_false e1]; simp only [Bool.false_or, Bool.and_eq_false_iff, decide_eq_false_iff_not]; by_cases h9 : b.length = 1
     · exact .inr (e2 h9)
     · exact .inl h9
  have e2 : b.length = 1 → ¬ rvS (runeL (b ++ [ub x, 129])) = 3 := fun h_ => absurd h_ (by omega)
  refine WC.skip (hK8 _ _ (WC.region (WL.r 3 hs26 [] rfl (WL.nil (tkN ?_)))))
  refine ⟨sbF rfl, (hs26.drop (by repeat (first | exact List.Sublist.refl _ | exact List.sublist_append_left _ _ | exact List.Sublist.trans (List.sublist_append_left _ _) (List.sublist_append_left _ _) | apply List.Sublist.cons | refine List.Sublist.trans ?_ (sR _)))), _, ?_, x + 1, rfl, ?_, ?_, ?_, ⟨rfl, trivial⟩⟩
  · omega
  · omega
  · omega
  · intro y h1 h2; rcases Nat.lt_or_ge y x with h3 | h3
    · exact p2 y h1 h3
    obtain rfl : y = x := by omega
    unfold begHit; rw [decide_eq_false e1]; simp only [Bool.false_or, Bool.and_eq_false_iff, decide_eq_false_iff_not]; by_cases h9 : b.length = 1
    · exact .inr (e2 h9)
    · exact .inl h9
 refine WC.exit (hK4 _ _ (WC.r1 hs5 [] rfl (WC.ret (rtv rfl rfl hs5 ?_))))
 rw [beg_no hl (fun y h1 h2 => p2 y h1 (by omega))]
theorem k17_ (n : Int) (w : World) :
    Calls Tryd.prog 40 #[i64 n] w fun e w' => e = .returned (.bool (!within n 0 9999)) ∧ St w [] [] w' := by
 refine enter 6 Tryd.func40 rfl Tryd.ntmps40 rfl rfl ?_
 have hs1 := St.init w
 refine WC.r1 hs1 [] rfl (WC.sr (WL.r 1 hs1 [] rfl (WL.cl Tryd.call23 rfl (k0_ _ _ _ _) ?_)))
 rintro _ whs2 ⟨rfl, hs2⟩
 replace hs2 := hs1.call0 hs2
 refine ⟨_, rfl, WL.r 2 hs2 [] rfl (WL.nil (WC.ret (rtv rfl rfl hs2 ?_)))⟩
 rfl
theorem k18_ (A_s : Option Addr) (n_s c_s : Nat) (s : List Int) (w : World) (f_s : SlF encI w A_s n_s s) (hn : n_s ≤ 1099511627776) :
    Calls Tryd.prog 56 #[.slice A_s n_s c_s, .func (.func 40) #[] #[]] w fun e w' => e = .returned (.int .i64 (findI (fun n => !within n 0 9999) s)) ∧ St w [] [] w' := by
 refine enter 19 Tryd.func56 rfl Tryd.ntmps56 rfl rfl ?_
 have hs1 := St.init w
 refine WC.r1 hs1 [] rfl (WC.seq (fun K2 hK2 => WC.r1 hs1 [] rfl (WC.block ?_)))
 refine WC.lS [0, 1, 7] rfl hs1 (fun k_ f w' => ∃ (i : Nat), k_ = n_s - i ∧ (i ≤ n_s) ∧ (∀ j, j < i → (fun n => !within n 0 9999) (gat encI s j) = false) ∧ Sub [(8, .int .i64 i)] f) ((fun (i : Nat) => n_s - i) (0)) ?_ ?_
 ·refine ⟨0, rfl, ?_, ?_, ⟨rfl, trivial⟩⟩
  · exact Nat.zero_le _
  · exact fun j hj => absurd hj (by omega)
 clear hs1
 rintro _ f w ⟨i, rfl, p0, p1, hG⟩ hF hs3
 refine WC.sub _ (hG.app hF) ?_
 clear hG hF
 refine WC.r1 hs3 [] rfl (WC.seq (fun K4 hK4 => ?_))
 refine WC.cond rfl (fun h5 => ?_) (fun h5 => ?_)
 ·have qh5 := h5
  try simp only [decide_eq_true_eq, decide_eq_false_iff_not] at qh5
  refine WC.skip (hK4 _ _ (WC.seq (fun K6 hK6 => WC.block (WC.r1 hs3 [] rfl (WC.sr (WL.r 3 hs3 [] rfl ?_))))))
  refine WL.val rfl rfl rfl (Run.idxN Tryd.runUnderlying24 Tryd.sizeOf3 rfl rfl rfl ?_ ?_ ?_) ?_
  · exact SlF.some_ (SlF.st0 f_s hs3)
  · omega
  · omega
  refine WL.val rfl rfl rfl (Run.load Tryd.isAgg3 rfl rfl (SlF.one1 (SlF.st0 f_s hs3) ?_ rfl)) ?_
  · omega
  refine WL.cl Tryd.call40 rfl (k17_ _ _) ?_
  rintro _ whs7 ⟨rfl, hs7⟩
  replace hs7 := hs3.call0 hs7
  refine ⟨_, rfl, WL.nil (WC.cond rfl (fun h8 => ?_) (fun h8 => ?_))⟩
  ·have qh8 := h8
   try simp only [decide_eq_true_eq, decide_eq_false_iff_not] at qh8
   refine WC.r1 hs7 [] rfl (WC.ret (ibR (tkR (tkR (ibR (tkR ?_))))))
   clear hK6 hK2
   refine rtv rfl rfl hs7 ?_
   rw [findI_some (F := encI) (by rw [f_s.len]; omega) p1 h8]
  have qh8 := h8
  try simp only [decide_eq_true_eq, decide_eq_false_iff_not] at qh8
  refine WC.skip (hK6 _ _ (WC.region (WL.r 2 hs7 [] rfl (WL.nil (tkN ?_)))))
  refine ⟨sbF rfl, hs7, _, ?_, i + 1, rfl, ?_, ?_, ⟨rfl, trivial⟩⟩
  · omega
  · omega
  · intro j hj; rcases Nat.lt_or_ge j i with h_ | h_
    · exact p1 j h_
    · obtain rfl : j = i := by omega
      exact h8
 have qh5 := h5
 try simp only [decide_eq_true_eq, decide_eq_false_iff_not] at qh5
 refine WC.exit (hK2 _ _ (WC.r1 hs3 [] rfl (WC.ret (rtv rfl rfl hs3 ?_))))
 rw [findI_none (F := encI) (fun j hj => p1 j (by rw [f_s.len] at hj; omega))]
theorem k19_ (A_s : Option Addr) (n_s c_s : Nat) (s : List Int) (w : World) (f_s : SlF encI w A_s n_s s) (hn : n_s ≤ 549755813888) :
    Calls Tryd.prog 39 #[.slice A_s n_s c_s, .func (.func 40) #[] #[]] w fun e w' => e = .returned (.bool (decide (0 ≤ findI (fun n => !within n 0 9999) s))) ∧ St w [] [] w' := by
 refine enter 9 Tryd.func39 rfl Tryd.ntmps39 rfl rfl ?_
 have hs1 := St.init w
 refine WC.r1 hs1 [] rfl (WC.sr (WL.r 2 hs1 [] rfl (WL.cl Tryd.call56 rfl (k18_ _ _ _ _ _ (SlF.st0 f_s hs1) ?_) ?_)))
 · first | assumption | rfl | omega
 rintro _ whs2 ⟨rfl, hs2⟩
 replace hs2 := hs1.call0 hs2
 refine ⟨_, rfl, WL.r 2 hs2 [] rfl (WL.nil (WC.ret (rtv rfl rfl hs2 ?_)))⟩
 rfl
theorem k20_ (A_l : Option Addr) (n_l c_l : Nat) (l : List Int) (w : World) (f_l : SlF encI w A_l n_l l) (hn : n_l ≤ 549755813888) :
    Calls Tryd.prog 19 #[.slice A_l n_l c_l] w fun e w' => e = .returned (.bool (areArgs l)) ∧ St w [] [] w' := by
 refine enter 11 Tryd.func19 rfl Tryd.ntmps19 rfl rfl ?_
 have hs1 := St.init w
 refine WC.r1 hs1 [] rfl (WC.sr (WL.r 4 hs1 [] rfl ?_))
 apply WL.gA 3 Acts.nil hs1 rfl
 ·intro g2 J3
  have qg2 := g2
  try simp only [bf, within_iff, within_not] at qg2
  refine WL.runA tbk 1 (Acts.nil.cons (j := 3) rfl g2) hs1 [] rfl trivial (WL.call (wantT rfl g2) rfl rfl (Run.call Tryd.call39 rfl rfl rfl) (k19_ _ _ _ _ _ (SlF.st0 f_l hs1) ?_) ?_)
  · first | assumption | rfl | omega
  rintro _ whs4 ⟨rfl, hs4⟩
  replace hs4 := hs1.call0 hs4
  refine ⟨_, rfl, WL.runA tbk 1 (Acts.nil.cons (j := 3) rfl g2) hs4 [] rfl trivial (WL.eA 3 Acts.nil J3 hs4 g2 rfl rfl)⟩
 intro _ hs5
 refine WL.r 1 hs5 [] rfl (WL.nil (WC.ret (rtv rfl rfl hs5 ?_)))
 rw [all_find, ← f_l.len]; unfold areArgs; rw [show decide ((l.length : Int) ≤ 8) = decide (l.length ≤ 8) from by rw [decide_eq_decide]; omega]
theorem k21_ (n : Int) (w : World) :
    Calls Tryd.prog 57 #[i64 n] w fun e w' => e = .returned (.bool (decide (n = 2) || decide (n = 3))) ∧ St w [] [] w' := by
 refine enter 9 Tryd.func57 rfl Tryd.ntmps57 rfl rfl ?_
 have hs1 := St.init w
 refine WC.r1 hs1 [] rfl (WC.sr (WL.r 3 hs1 [] rfl (WL.pO tbk 2 Acts.nil hs1 [] rfl rfl rfl rfl (fun g_ => trivial) (WL.r 1 hs1 [] rfl (WL.nil (WC.ret (retV1 rfl (resV.tmp rfl) ?_)))))))
 refine ⟨congrArg Ending.returned ?_, hs1.nil⟩
 rfl
theorem k22_ (p : VpR) (w : World) (f_p : okVpR 549755813888 w p) :
    Calls Tryd.prog 8 #[.agg #[i64 p.State, .bool p.Mark, .slice p.Args.A p.Args.n p.Args.c, .slice p.Part.A p.Part.n p.Part.c]] w fun e w' => e = .returned (.bool (vpOk p.dat)) ∧ St w [] [] w' := by
 have nb_p_Args := f_p.Args_n
 have nl_p_Args := f_p.Args.len
 have nb_p_Part := f_p.Part_n
 have nl_p_Part := f_p.Part.len
 have hal := f_p.Args.len
 have hpl := f_p.Part.len
 have e1 : decide ((p.Args.n : Int) = 0) = decide (p.dat.Args.length = 0) := by rw [decide_eq_decide]; show _ ↔ p.Args.xs.length = 0; omega
 have e2 : decide ((p.Part.n : Int) = 0) = decide (p.dat.Part.length = 0) := by rw [decide_eq_decide]; show _ ↔ p.Part.xs.length = 0; omega
 refine enter 56 Tryd.func8 rfl Tryd.ntmps8 rfl rfl ?_
 have hs1 := St.init w
 refine WC.sr (WL.bx hs1 rfl (fun b2 _ hs3 => WL.r 1 hs3 [] rfl (WL.nil (WC.seq (fun K4 hK4 => WC.r1 hs3 [0] rfl (WC.block (WC.r1 hs3 [] rfl ?_)))))))
 refine WC.cD rfl (fun qh5 => ?_) (fun qh5 => ?_)
 ·refine WC.sr (WL.r 4 hs3 [0] rfl (WL.pA tbk 4 Acts.nil hs3 [0] rfl rfl rfl rfl (fun g_ => ⟨rfl, trivial⟩) (WL.r 1 hs3 [] rfl ?_)))
  apply WL.gA 9 Acts.nil hs3 rfl
  ·intro g6 J7
   have qg6 := g6
   try simp only [bf, within_iff, within_not] at qg6
   refine WL.runA tbk 5 (Acts.nil.cons (j := 9) rfl g6) hs3 [0] rfl ⟨rfl, trivial⟩ ?_
   apply WL.gO 3 (Acts.nil.cons (j := 9) rfl g6) hs3 rfl
   ·intro g8 J9
    have qg8 := g8
    try simp only [bf, within_iff, within_not] at qg8
    refine WL.runA tbk 2 (Acts.nil.cons (j := 14) rfl g8) hs3 [0] rfl ⟨rfl, trivial⟩ (WL.call (wantF rfl g8) rfl rfl (Run.call Tryd.call18 rfl rfl rfl) (k15_ _ _ _ _ _ (SlF.st0 f_p.Part hs3) f_p.Part_c ?_) ?_)
    · first | assumption | rfl | omega
    rintro _ whs10 ⟨rfl, hs10⟩
    replace hs10 := hs3.call0 hs10
    refine ⟨_, rfl, WL.eO 3 (Acts.nil.cons (j := 9) rfl g6) J9 hs10 g8 rfl rfl⟩
   intro _ hs11
   exact WL.eA 6 Acts.nil J7 hs11 g6 rfl rfl
  intro _ hs12
  refine WL.r 1 hs12 [] rfl (WL.nil (WC.ret (ibR (tkR ?_))))
  clear hK4
  refine rtv rfl rfl hs12 ?_
  rw [e1, e2]; unfold vpOk; rw [if_pos (by show p.State = 0; omega)]; rfl
 refine WC.r1 hs3 [] rfl (WC.cD rfl (fun qh13 => ?_) (fun qh13 => ?_))
 ·refine WC.sr (WL.r 4 hs3 [0] rfl (WL.pA tbk 4 Acts.nil hs3 [0] rfl rfl rfl rfl (fun g_ => ⟨rfl, trivial⟩) (WL.r 1 hs3 [] rfl (WL.pA tbk 4 Acts.nil hs3 [0] rfl rfl rfl rfl (fun g_ => ⟨rfl, trivial⟩) (WL.r 1 hs3 [] rfl (WL.nil (WC.ret ?_)))))))
  refine ibR (tkR ?_)
  clear hK4
  refine rtv rfl rfl hs3 ?_
  rw [e1, e2]; unfold vpOk; rw [if_neg (by show ¬ p.State = 0; omega), if_pos (by show p.State = 1; omega)]; rfl
 refine WC.seq (fun K14 hK14 => WC.r1 hs3 [] rfl ?_)
 refine WC.cD rfl (fun qh15 => ?_) (fun qh15 => ?_)
 ·refine WC.skip (hK14 _ _ (WC.condT rfl (decide_eq_true qh15) (WC.sr (WL.r 2 hs3 [0] rfl ?_))))
  refine WL.cl Tryd.call19 rfl (k20_ _ _ _ _ _ (SlF.st0 f_p.Args hs3) ?_) ?_
  · first | assumption | rfl | omega
  rintro _ whs17 ⟨rfl, hs17⟩
  replace hs17 := hs3.call0 hs17
  refine ⟨_, rfl, WL.r 1 hs17 [] rfl (WL.pA tbk 4 Acts.nil hs17 [0] rfl rfl rfl rfl (fun g_ => ⟨rfl, trivial⟩) (WL.r 1 hs17 [] rfl (WL.nil (WC.ret (ibR (tkR ?_))))))⟩
  clear hK4
  refine rtv rfl rfl hs17 ?_
  rw [vpOk_csi (.inl (by show p.State = 2; omega)), e2]; rfl
 refine WC.region (WL.r 2 hs3 [] rfl (WL.nil (hK14 _ _ ?_)))
 refine WC.cD rfl (fun qh18 => ?_) (fun qh18 => ?_)
 ·refine WC.sr (WL.r 2 hs3 [0] rfl (WL.cl Tryd.call19 rfl (k20_ _ _ _ _ _ (SlF.st0 f_p.Args hs3) ?_) ?_))
  · first | assumption | rfl | omega
  rintro _ whs19 ⟨rfl, hs19⟩
  replace hs19 := hs3.call0 hs19
  refine ⟨_, rfl, WL.r 1 hs19 [] rfl (WL.pA tbk 4 Acts.nil hs19 [0] rfl rfl rfl rfl (fun g_ => ⟨rfl, trivial⟩) (WL.r 1 hs19 [] rfl (WL.nil (WC.ret (ibR (tkR ?_))))))⟩
  clear hK4
  refine rtv rfl rfl hs19 ?_
  rw [vpOk_csi (.inr (by show p.State = 3; omega)), e2]; rfl
 refine WC.skip (hK4 _ _ (WC.r1 hs3 [] rfl (WC.ret (rtv rfl rfl hs3 ?_))))
 unfold vpOk; rw [if_neg (by show ¬ p.State = 0; omega), if_neg (by show ¬ p.State = 1; omega), if_neg (by show ¬ (p.State = 2 ∨ p.State = 3); omega)]
theorem k23_ (p : VpR) (w : World) (f_p : okVpR 549755813888 w p) :
    Calls Tryd.prog 41 #[.agg #[i64 p.State, .bool p.Mark, .slice p.Args.A p.Args.n p.Args.c, .slice p.Part.A p.Part.n p.Part.c]] w fun e w' => e = .returned (.bool (vpOk p.dat)) ∧ St w [] [] w' := by
 have nb_p_Args := f_p.Args_n
 have nl_p_Args := f_p.Args.len
 have nb_p_Part := f_p.Part_n
 have nl_p_Part := f_p.Part.len
 have hal := f_p.Args.len
 have hpl := f_p.Part.len
 have e1 : decide ((p.Args.n : Int) = 0) = decide (p.dat.Args.length = 0) := by rw [decide_eq_decide]; show _ ↔ p.Args.xs.length = 0; omega
 have e2 : decide ((p.Part.n : Int) = 0) = decide (p.dat.Part.length = 0) := by rw [decide_eq_decide]; show _ ↔ p.Part.xs.length = 0; omega
 refine enter 63 Tryd.func41 rfl Tryd.ntmps41 rfl rfl ?_
 have hs1 := St.init w
 refine WC.sr (WL.bx hs1 rfl (fun b2 _ hs3 => WL.r 1 hs3 [] rfl (WL.nil (WC.seq (fun K4 hK4 => WC.sr (WL.r 4 hs3 [0] rfl (WL.pO tbk 3 Acts.nil hs3 [0] rfl rfl rfl rfl (fun g_ => ⟨rfl, trivial⟩) ?_)))))))
 refine WL.r 1 hs3 [] rfl (WL.pO tbk 4 Acts.nil hs3 [0] rfl rfl rfl rfl (fun g_ => ⟨rfl, trivial⟩) (WL.r 1 hs3 [] rfl ?_))
 apply WL.gO 14 Acts.nil hs3 rfl
 ·intro g5 J6
  have qg5 := g5
  try simp only [bf, within_iff, within_not] at qg5
  refine WL.runA tbk 2 (Acts.nil.cons (j := 14) rfl g5) hs3 [0] rfl ⟨rfl, trivial⟩ (WL.call (wantF rfl g5) rfl rfl (Run.call Tryd.call57 rfl rfl rfl) (k21_ _ _) ?_)
  rintro _ whs7 ⟨rfl, hs7⟩
  replace hs7 := hs3.call0 hs7
  refine ⟨_, rfl, WL.runA tbk 2 (Acts.nil.cons (j := 14) rfl g5) hs7 [] rfl trivial ?_⟩
  apply WL.gA 8 (Acts.nil.cons (j := 14) rfl g5) hs7 rfl
  ·intro g8 J9
   have qg8 := g8
   try simp only [bf, within_iff, within_not] at qg8
   refine WL.runA tbk 3 (Acts.nil.cons (j := 19) rfl g8) hs7 [0] rfl ⟨rfl, trivial⟩ (WL.pO tbk 4 (Acts.nil.cons (j := 19) rfl g8) hs7 [0] rfl rfl rfl rfl (fun g_ => ⟨rfl, trivial⟩) (WL.eA 4 (Acts.nil.cons (j := 14) rfl g5) J9 hs7 g8 rfl rfl))
  intro _ hs10
  exact WL.eO 6 Acts.nil J6 hs10 g5 rfl rfl
 intro _ hs11
 refine WL.nil (WC.cq rfl (fun h12 qh12 => ?_) (fun h12 qh12 => ?_))
 ·have hbad : vpBad p.dat = true := by unfold vpBad; rw [show p.dat.Args.length = p.Args.n from hal]; exact h12
  refine WC.r1 hs11 [] rfl (WC.ret (tkR ?_))
  clear hK4
  refine rtv rfl rfl hs11 ?_
  rw [vpOk_bad hbad]
 have hbad : vpBad p.dat = false := by unfold vpBad; rw [show p.dat.Args.length = p.Args.n from hal]; exact h12
 refine WC.skip (hK4 _ _ (WC.seq (fun K13 hK13 => WC.r1 hs11 [0] rfl (WC.block ?_))))
 refine WC.lS [1, 34, 36, 37] rfl hs11 (fun k_ f w' => ∃ (i : Nat), k_ = p.Args.n - i ∧ (i ≤ p.Args.n) ∧ (∀ j, j < i → within (gat encI p.Args.xs j) 0 9999 = true) ∧ Sub [(38, .int .i64 i)] f) ((fun (i : Nat) => p.Args.n - i) (0)) ?_ ?_
 ·refine ⟨0, rfl, ?_, ?_, ⟨rfl, trivial⟩⟩
  · exact Nat.zero_le _
  · exact fun j hj => absurd hj (by omega)
 clear hs11
 rintro _ f w ⟨i, rfl, p0, p1, hG⟩ hF hs14
 refine WC.sub _ (hG.app hF) ?_
 clear hG hF
 refine WC.r1 hs14 [] rfl (WC.seq (fun K15 hK15 => ?_))
 refine WC.cD rfl (fun qh16 => ?_) (fun qh16 => ?_)
 ·refine WC.skip (hK15 _ _ (WC.seq (fun K17 hK17 => WC.block (WC.sr ?_))))
  refine WL.val rfl rfl rfl (Run.idxN Tryd.runUnderlying24 Tryd.sizeOf3 rfl rfl rfl ?_ ?_ ?_) ?_
  · exact SlF.some_ (SlF.st0 f_p.Args hs14)
  · omega
  · omega
  refine WL.val rfl rfl rfl (Run.load Tryd.isAgg3 rfl rfl (SlF.one1 (SlF.st0 f_p.Args hs14) ?_ rfl)) ?_
  · omega
  refine WL.r 1 hs14 [] rfl (WL.nil (WC.sr (WL.r 3 hs14 [] rfl (WL.pO tbk 2 Acts.nil hs14 [] rfl rfl rfl rfl (fun g_ => trivial) (WL.nil (WC.cq rfl (fun h18 qh18 => ?_) (fun h18 qh18 => ?_)))))))
  ·refine WC.r1 hs14 [] rfl (WC.ret (ibR (tkR (tkR (ibR (tkR ?_))))))
   clear hK17 hK13
   refine rtv rfl rfl hs14 ?_
   rw [vpOk_arg (v := p.dat) (j := i) (by show i < p.Args.xs.length; omega) (by rw [← Bool.not_eq_true, within_iff]; show ¬ (0 ≤ gat encI p.Args.xs i ∧ gat encI p.Args.xs i ≤ 9999); simp at qh18; omega)]
  refine WC.skip (hK17 _ _ (WC.region (WL.r 2 hs14 [] rfl (WL.nil (tkN ?_)))))
  refine ⟨sbF rfl, hs14, _, ?_, i + 1, rfl, ?_, ?_, ⟨rfl, trivial⟩⟩
  · omega
  · omega
  · intro j hj; rcases Nat.lt_or_ge j i with h_ | h_
    · exact p1 j h_
    · obtain rfl : j = i := by omega
      rw [within_iff]; simp at qh18; omega
 refine WC.exit (hK13 _ _ (WC.sr (WL.r 5 hs14 [0] rfl ?_)))
 apply WL.gO 8 Acts.nil hs14 rfl
 ·intro g19 J20
  have qg19 := g19
  try simp only [bf, within_iff, within_not] at qg19
  refine WL.runA tbk 4 (Acts.nil.cons (j := 4) rfl g19) hs14 [0] rfl ⟨rfl, trivial⟩ ?_
  apply WL.gA 3 (Acts.nil.cons (j := 4) rfl g19) hs14 rfl
  ·intro g21 J22
   have qg21 := g21
   try simp only [bf, within_iff, within_not] at qg21
   refine WL.runA tbk 2 (Acts.nil.cons (j := 8) rfl g21) hs14 [0] rfl ⟨rfl, trivial⟩ (WL.call (wantT rfl g21) rfl rfl (Run.call Tryd.call58 rfl rfl rfl) (k16_ _ _ _ _ _ (SlF.st0 f_p.Part hs14) f_p.Part_c ?_) ?_)
   · first | assumption | rfl | omega
   rintro _ whs23 ⟨rfl, hs23⟩
   replace hs23 := hs14.call0 hs23
   refine ⟨_, rfl, WL.eA 3 (Acts.nil.cons (j := 4) rfl g19) J22 hs23 g21 rfl rfl⟩
  intro _ hs24
  exact WL.eO 5 Acts.nil J20 hs24 g19 rfl rfl
 intro _ hs25
 refine WL.r 1 hs25 [] rfl (WL.nil (WC.ret (rtv rfl rfl hs25 ?_)))
 rw [vpOk_end hbad (fun j hj => p1 j (by have : j < p.Args.xs.length := hj; omega)), e2]; rfl
theorem built_26_0_1_2_3 (x0 : Int) (x1 : Bool) (x2 : Option Addr) (x3 : Nat) (x4 : Nat) (x5 : Option Addr) (x6 : Nat) (x7 : Nat) : Tryd.prog.built 26 [(0, .int .i64 x0), (1, .bool x1), (2, .slice x2 x3 x4), (3, .slice x5 x6 x7)] = some (List.toArray [.int .i64 x0, .bool x1, .slice x2 x3 x4, .slice x5 x6 x7]) := by kernel_rfl
theorem k24_ (p : VpR) (w : World) (f_p : okVpR 549755813888 w p) (hsm : smVp 1048576 p.dat) :
    Calls Tryd.prog 35 #[.agg #[i64 p.State, .bool p.Mark, .slice p.Args.A p.Args.n p.Args.c, .slice p.Part.A p.Part.n p.Part.c]] w fun e w' => ∃ r L1, e = .returned (.agg #[i64 r.State, .bool r.Mark, .slice r.Args.A r.Args.n r.Args.c, .slice r.Part.A r.Part.n r.Part.c]) ∧ St w [] L1 w' ∧ ownVpR r L1 ∧ r.dat = p.dat := by
 have nb_p_Args := f_p.Args_n
 have nl_p_Args := f_p.Args.len
 have nb_p_Part := f_p.Part_n
 have nl_p_Part := f_p.Part.len
 have hsB : smVp 549755813888 p.dat := ⟨Nat.le_trans hsm.1 (by decide), Nat.le_trans hsm.2 (by decide)⟩
 have hsa : p.Args.xs.length ≤ 1048576 := hsm.1
 have hsp : p.Part.xs.length ≤ 1048576 := hsm.2
 refine enter 14 Tryd.func35 rfl Tryd.ntmps35 rfl rfl ?_
 have hs1 := St.init w
 refine WC.sr (WL.bx hs1 rfl (fun b2 _ hs3 => WL.al hs3 Tryd.zeroValue26 rfl rfl (fun b4 _ hs5 => WL.nil (WC.seq (fun K6 hK6 => WC.rH hs5.d1 hs5 (fun _ hs7 => ?_))))))
 refine WH.rn [0, 1, 2, 3, 4, 5, 7, 8] hs7.d1 [0, 0, 0, 0] rfl rfl (WH.o1 6 rfl (WL.cl Tryd.call52 rfl (k12_ _ _ _ _ _ (SlF.st0 f_p.Args hs7) ?_) ?_))
 · first | assumption | rfl | omega
 rintro _ whs8 ⟨A9, c10, L1_11, rfl, hs8, ho12⟩
 replace hs8 := hs7.callF hs8
 refine ⟨_, rfl, ?_⟩
 replace hs8 := St.back [_, _] hs8
 refine WL.nil ⟨(hs8.d1.rm L1_11), WH.o1 9 rfl (WL.cl Tryd.call53 rfl (k11_ _ _ _ _ _ (SlF.st0 f_p.Part hs8) ?_) ?_)⟩
 · first | assumption | rfl | omega
 rintro _ whs13 ⟨A14, c15, L1_16, rfl, hs13, ho17⟩
 replace hs13 := hs8.callF hs13
 refine ⟨_, rfl, ?_⟩
 replace hs13 := St.back [_, _] hs13
 refine WL.nil ⟨((hs13.d1.rm L1_16).rm L1_11), ?_⟩
 refine WH.take 10 rfl (by kernel_rfl) rfl rfl rfl ((hs13.d1.rm L1_16).rm L1_11) (fun w_ hs_ => (Run.build rfl rfl rfl rfl (built_26_0_1_2_3 _ _ _ _ _ _ _ _))) ?_
 refine WH.o1 11 rfl (WL.st tbk hs13 0 rfl rfl (fun _ hs18 => WL.nil ⟨((hs18.d1.rm L1_16).rm L1_11), WH.dn (hK6 _ _ (WC.ret (retV1 rfl (resV.cellA tbk hs18 0 rfl rfl rfl rfl) ?_)))⟩))
 obtain ⟨L20, hs19, ho21⟩ := ownVpR.fl hs18 ho12 ho17
 have hs22 := ((hs19.fb b2).fb b4)
 refine ownVpR.ret rfl (St.keep1 (hs22.fr L20)) ho21 ?_
 · exact VpD.ext' rfl rfl rfl rfl
theorem k25_ (p : VpR) (w : World) (f_p : okVpR 549755813888 w p) (hsm : smVp 1048576 p.dat) :
    Calls Tryd.prog 42 #[.agg #[i64 p.State, .bool p.Mark, .slice p.Args.A p.Args.n p.Args.c, .slice p.Part.A p.Part.n p.Part.c]] w fun e w' => ∃ r L1, e = .returned (.agg #[i64 r.State, .bool r.Mark, .slice r.Args.A r.Args.n r.Args.c, .slice r.Part.A r.Part.n r.Part.c]) ∧ St w [] L1 w' ∧ ownVpR r L1 ∧ r.dat = p.dat := by
 have nb_p_Args := f_p.Args_n
 have nl_p_Args := f_p.Args.len
 have nb_p_Part := f_p.Part_n
 have nl_p_Part := f_p.Part.len
 have hsB : smVp 549755813888 p.dat := ⟨Nat.le_trans hsm.1 (by decide), Nat.le_trans hsm.2 (by decide)⟩
 have hsa : p.Args.xs.length ≤ 1048576 := hsm.1
 have hsp : p.Part.xs.length ≤ 1048576 := hsm.2
 refine enter 14 Tryd.func42 rfl Tryd.ntmps42 rfl rfl ?_
 have hs1 := St.init w
 refine WC.sr (WL.bx hs1 rfl (fun b2 _ hs3 => WL.al hs3 Tryd.zeroValue26 rfl rfl (fun b4 _ hs5 => WL.nil (WC.sr (WL.buildF (F := encI) hs5 ([]) Tryd.runUnderlying24 Tryd.sizeOf3 Tryd.zeroValue3 rfl rfl rfl rfl rfl rfl rfl rfl rfl rfl rfl rfl (fun A9 c10 L6 whs7 hs7 ho8 => ?_))))))
 replace hs7 := St.back [_, _] hs7
 refine WL.r 2 hs7 [1] rfl (WL.appendG (hs7.fr L6) ho8 (SlF.src (SlF.st0 f_p.Args hs7) Tryd.underlying24) Tryd.underlying24 inf3 rfl rfl rfl rfl rfl rfl rfl rfl rfl rfl ?_ (fun A14 c15 L11 whs12 hs12 ho13 => ?_))
 · first | omega | (simp; omega)
 replace hs12 := St.back [_, _] hs12
 refine WL.r 1 hs12 [] rfl (WL.st tbk hs12 1 rfl rfl (fun _ hs16 => WL.nil (WC.sr (WL.buildF (F := encB) hs16 ([]) Tryd.runUnderlying22 Tryd.sizeOf5 Tryd.zeroValue5 rfl rfl rfl rfl rfl rfl rfl rfl rfl rfl rfl rfl (fun A20 c21 L17 whs18 hs18 ho19 => ?_)))))
 replace hs18 := St.back [_, _] hs18
 refine WL.r 2 hs18 [1] rfl (WL.appendG (hs18.fr L17) ho19 (SlF.src (SlF.st0 f_p.Part hs18) Tryd.underlying22) Tryd.underlying22 inf5 rfl rfl rfl rfl rfl rfl rfl rfl rfl rfl ?_ (fun A25 c26 L22 whs23 hs23 ho24 => ?_))
 · first | omega | (simp; omega)
 replace hs23 := St.back [_, _] hs23
 refine WL.r 1 hs23 [] rfl (WL.st tbk hs23 1 rfl rfl (fun _ hs27 => WL.nil (WC.sr (WL.r 1 hs27 [1] rfl (WL.st tbk hs27 0 rfl rfl (fun _ hs28 => WL.nil (WC.ret ?_)))))))
 refine retV1 rfl (resV.cellA tbk hs28 0 rfl rfl rfl rfl) ?_
 obtain ⟨L30, hs29, ho31⟩ := ownVpR.fl hs28 ho13 ho24
 have hs32 := ((hs29.fb b2).fb b4)
 refine ownVpR.ret rfl (St.keep1 (hs32.fr L30)) ho31 ?_
 · exact VpD.ext' rfl rfl rfl rfl
theorem built_26 : Tryd.prog.built 26 [] = some (List.toArray [.int .i64 0, .bool false, .slice none 0 0, .slice none 0 0]) := by kernel_rfl
theorem built_33_0_1 (x0 : Int) (x1 : Int) : Tryd.prog.built 33 [(0, .int .i64 x0), (1, .int .i64 x1)] = some (List.toArray [.int .i64 x0, .int .i64 x1, .bool false, .slice none 0 0]) := by kernel_rfl
theorem built_26_3 (x0 : Option Addr) (x1 : Nat) (x2 : Nat) : Tryd.prog.built 26 [(3, .slice x0 x1 x2)] = some (List.toArray [.int .i64 0, .bool false, .slice none 0 0, .slice x0 x1 x2]) := by kernel_rfl
theorem built_33 : Tryd.prog.built 33 [] = some (List.toArray [.int .i64 0, .int .i64 0, .bool false, .slice none 0 0]) := by kernel_rfl
theorem k26_ (A_p : Option Addr) (n_p c_p : Nat) (p : List UInt8) (b : Int) (w : World) (f_p : SlF encB w A_p n_p p) (hn : n_p ≤ 1048576) :
    Calls Tryd.prog 59 #[.slice A_p n_p c_p, i64 b] w fun e w' => ∃ r0 L0 r1 L1, e = .returned (.tuple #[.agg #[i64 r0.State, .bool r0.Mark, .slice r0.Args.A r0.Args.n r0.Args.c, .slice r0.Part.A r0.Part.n r0.Part.c], .agg #[i64 r1.Kind, i64 r1.R, .bool r1.Mark, .slice r1.Args.A r1.Args.n r1.Args.c]]) ∧ St w [] (L0 ++ L1) w' ∧ ownVpR r0 L0 ∧ ownActR r1 L1 ∧ r0.dat = (vpPlain p b).1 ∧ r1.dat = (vpPlain p b).2 := by
 have hpl := f_p.len
 refine enter 49 Tryd.func59 rfl Tryd.ntmps59 rfl rfl ?_
 have hs1 := St.init w
 refine WC.sr (WL.al hs1 Tryd.zeroValue26 rfl rfl (fun b2 _ hs3 => WL.al hs3 Tryd.zeroValue33 rfl rfl (fun b4 _ hs5 => WL.nil (WC.seq (fun K6 hK6 => WC.sr (WL.r 3 hs5 [] rfl (WL.pO tbk 2 Acts.nil hs5 [] rfl rfl rfl rfl (fun g_ => trivial) ?_)))))))
 refine WL.nil (WC.cq rfl (fun h7 qh7 => ?_) (fun h7 qh7 => ?_))
 ·refine WC.sr ?_
  refine WL.val rfl rfl rfl (Run.build rfl rfl rfl rfl (built_26)) (WL.r 1 hs5 [] rfl ?_)
  refine WL.val rfl rfl rfl (Run.build rfl rfl rfl rfl (built_33_0_1 _ _)) (WL.st tbk hs5 1 rfl rfl (fun _ hs8 => WL.st tbk hs8 0 rfl rfl (fun _ hs9 => WL.nil (WC.ret (tkR ?_)))))
  clear hK6
  refine retV2 rfl (resV.cellA tbk hs9 1 rfl rfl rfl rfl) (resV.cellA tbk hs9 0 rfl rfl rfl rfl) ?_
  have hv : vpPlain p b = (vp0, ⟨2, b, false, []⟩) := by unfold vpPlain; rw [if_pos (by simp at qh7; omega)]
  try simp only [List.nil_append] at *
  obtain ⟨L13, hs12, ho14⟩ := ownVpR.fl hs9 (OwnF.nil _ _) (OwnF.nil _ _)
  have hs15 := ((hs12.fb b2).fb b4)
  refine ⟨⟨0, false, ⟨none, 0, 0, []⟩, ⟨none, 0, 0, []⟩⟩, _, ⟨(2), b, false, ⟨none, 0, 0, []⟩⟩, _, rfl, (St.drop ((hs15.fr ([] : Hp)).fr L13) (List.Sublist.append_left (List.sublist_append_left ([] : Hp) _) L13)), ?_, ?_, ?_, ?_⟩
  · exact (by exact ho14)
  · exact (OwnF.nil _ _)
  · rw [hv]; rfl
  · rw [hv]; rfl
 have hn1 : ¬ (b < 32 ∨ b = 127) := by simp at qh7; omega
 refine WC.skip (hK6 _ _ (WC.seq (fun K17 hK17 => WC.r1 hs5 [] rfl ?_)))
 refine WC.cD rfl (fun qh18 => ?_) (fun qh18 => ?_)
 ·refine WC.sr ?_
  refine WL.val rfl rfl rfl (Run.build rfl rfl rfl rfl (built_26)) (WL.r 1 hs5 [] rfl ?_)
  refine WL.val rfl rfl rfl (Run.build rfl rfl rfl rfl (built_33_0_1 _ _)) (WL.st tbk hs5 1 rfl rfl (fun _ hs19 => WL.st tbk hs19 0 rfl rfl (fun _ hs20 => WL.nil (WC.ret (tkR ?_)))))
  clear hK17
  refine retV2 rfl (resV.cellA tbk hs20 1 rfl rfl rfl rfl) (resV.cellA tbk hs20 0 rfl rfl rfl rfl) ?_
  have hv : vpPlain p b = (vp0, ⟨1, b, false, []⟩) := by unfold vpPlain; rw [if_neg (by simp at *; omega), if_pos (by omega)]
  try simp only [List.nil_append] at *
  obtain ⟨L24, hs23, ho25⟩ := ownVpR.fl hs20 (OwnF.nil _ _) (OwnF.nil _ _)
  have hs26 := ((hs23.fb b2).fb b4)
  refine ⟨⟨0, false, ⟨none, 0, 0, []⟩, ⟨none, 0, 0, []⟩⟩, _, ⟨(1), b, false, ⟨none, 0, 0, []⟩⟩, _, rfl, (St.drop ((hs26.fr ([] : Hp)).fr L24) (List.Sublist.append_left (List.sublist_append_left ([] : Hp) _) L24)), ?_, ?_, ?_, ?_⟩
  · exact (by exact ho25)
  · exact (OwnF.nil _ _)
  · rw [hv]; rfl
  · rw [hv]; rfl
 refine WC.skip (hK17 _ _ (WC.sr (WL.buildF (F := encB) hs5 ([]) Tryd.runUnderlying22 Tryd.sizeOf5 Tryd.zeroValue5 rfl rfl rfl rfl rfl rfl rfl rfl rfl rfl rfl rfl (fun A31 c32 L28 whs29 hs29 ho30 => ?_))))
 replace hs29 := St.back [_, _] hs29
 refine WL.r 1 hs29 [] rfl (WL.appendG (hs29.fr L28) ho30 (SlF.src (SlF.st0 f_p hs29) Tryd.underlying22) Tryd.underlying22 inf5 rfl rfl rfl rfl rfl rfl rfl rfl rfl rfl ?_ (fun A36 c37 L33 whs34 hs34 ho35 => ?_))
 · first | omega | (simp; omega)
 replace hs34 := St.back [_, _] hs34
 refine WL.r 2 hs34 [] rfl (WL.buildSlice hs34 Tryd.runUnderlying22 Tryd.sizeOf5 Tryd.zeroValue5 rfl rfl rfl rfl rfl rfl rfl rfl rfl rfl (fun b38 whs39 hs39 => ?_))
 refine WL.appendG (hs39.fr L33) ho35 (srcB1 Tryd.underlying22 (hs39.own _ (nthL_mem (i := 0) rfl)).1) Tryd.underlying22 inf5 rfl rfl rfl rfl rfl rfl rfl rfl rfl rfl ?_ (fun A43 c44 L40 whs41 hs41 ho42 => ?_)
 · first | omega | (simp; omega)
 replace hs41 := St.back [_, _, _] hs41
 refine WL.r 1 hs41 [] rfl (WL.nil (WC.sr (WL.r 1 hs41 [] rfl (WL.cl Tryd.call67 rfl (k14_ _ _ _ _ _ (SlF.ofOwn ho42 (hs41.ow L40)) (OwnF.cap ho42) ?_) ?_))))
 · first | assumption | rfl | omega | (simp; omega)
 rintro _ whs45 ⟨rfl, hs45⟩
 replace hs45 := hs41.call0 hs45
 refine ⟨_, rfl, WL.r 5 hs45 [] rfl (WL.nil (WC.seq (fun K46 hK46 => WC.r1 hs45 [] rfl ?_)))⟩
 refine WC.cD rfl (fun qh47 => ?_) (fun qh47 => ?_)
 ·refine WC.sr ?_
  refine WL.val rfl rfl rfl (Run.build rfl rfl rfl rfl (built_26)) (WL.r 1 hs45 [] rfl ?_)
  refine WL.val rfl rfl rfl (Run.build rfl rfl rfl rfl (built_33_0_1 _ _)) (WL.st tbk hs45 2 rfl rfl (fun _ hs48 => WL.st tbk hs48 1 rfl rfl (fun _ hs49 => WL.nil (WC.ret (tkR ?_)))))
  clear hK46
  refine retV2 rfl (resV.cellA tbk hs49 2 rfl rfl rfl rfl) (resV.cellA tbk hs49 1 rfl rfl rfl rfl) ?_
  have hv : vpPlain p b = (vp0, ⟨1, rvN (runeL (p ++ [ub b])), false, []⟩) := by unfold vpPlain; rw [if_neg hn1, if_neg (by omega), if_pos (by simpa [← Int.ofNat_inj] using qh47)]
  try simp only [List.nil_append] at *
  obtain ⟨L53, hs52, ho54⟩ := ownVpR.fl hs49 (OwnF.nil _ _) (OwnF.nil _ _)
  have hs55 := (((hs52.fb b2).fb b4).fb b38)
  refine ⟨⟨0, false, ⟨none, 0, 0, []⟩, ⟨none, 0, 0, []⟩⟩, _, ⟨(1), _, false, ⟨none, 0, 0, []⟩⟩, _, rfl, (St.drop ((hs55.fr ([] : Hp)).fr L53) (List.Sublist.append_left (List.sublist_append_left ([] : Hp) _) L53)), ?_, ?_, ?_, ?_⟩
  · exact (by exact ho54)
  · exact (OwnF.nil _ _)
  · rw [hv]; rfl
  · rw [hv]; rfl
 have hn3 : ¬ rvS (runeL (p ++ [ub b])) = (p ++ [ub b]).length := by simpa [← Int.ofNat_inj] using qh47
 refine WC.skip (hK46 _ _ (WC.seq (fun K57 hK57 => WC.sr (WL.r 1 hs45 [] rfl ?_))))
 refine WL.cl Tryd.call58 rfl (k16_ _ _ _ _ _ (SlF.ofOwn ho42 (hs45.ow L40)) (OwnF.cap ho42) ?_) ?_
 · first | assumption | rfl | omega | (simp; omega)
 rintro _ whs58 ⟨rfl, hs58⟩
 replace hs58 := hs45.call0 hs58
 refine ⟨_, rfl, WL.nil (WC.cq rfl (fun h59 qh59 => ?_) (fun h59 qh59 => ?_))⟩
 ·refine WC.sr (WL.r 1 hs58 [] rfl ?_)
  refine WL.val rfl rfl rfl (Run.build rfl rfl rfl rfl (built_26_3 _ _ _)) ?_
  refine WL.val rfl rfl rfl (Run.build rfl rfl rfl rfl (built_33)) (WL.st tbk hs58 2 rfl rfl (fun _ hs60 => WL.st tbk hs60 1 rfl rfl (fun _ hs61 => WL.nil (WC.ret (tkR ?_)))))
  clear hK57
  refine retV2 rfl (resV.cellA tbk hs61 2 rfl rfl rfl rfl) (resV.cellA tbk hs61 1 rfl rfl rfl rfl) ?_
  have hv : vpPlain p b = (⟨0, false, [], p ++ [ub b]⟩, act0) := by unfold vpPlain; rw [if_neg hn1, if_neg (by omega), if_neg hn3, if_pos (by simpa using h59)]
  try simp only [List.nil_append] at *
  obtain ⟨L64, hs63, ho65⟩ := ownVpR.fl hs61 (OwnF.nil _ _) ho42
  have hs66 := (((hs63.fb b2).fb b4).fb b38)
  refine ⟨⟨0, false, ⟨none, 0, 0, []⟩, SlD.of ho42⟩, _, ⟨0, 0, false, ⟨none, 0, 0, []⟩⟩, _, rfl, (St.drop ((hs66.fr ([] : Hp)).fr L64) (List.Sublist.append_left (List.sublist_append_left ([] : Hp) _) L64)), ?_, ?_, ?_, ?_⟩
  · exact (by exact ho65)
  · exact (OwnF.nil _ _)
  · rw [hv]; rfl
  · rw [hv]; rfl
 refine WC.skip (hK57 _ _ (WC.sr ?_))
 refine WL.val rfl rfl rfl (Run.build rfl rfl rfl rfl (built_26)) ?_
 refine WL.val rfl rfl rfl (Run.build rfl rfl rfl rfl (built_33_0_1 _ _)) (WL.st tbk hs58 2 rfl rfl (fun _ hs68 => WL.st tbk hs68 1 rfl rfl (fun _ hs69 => WL.nil (WC.ret (retV2 rfl (resV.cellA tbk hs69 2 rfl rfl rfl rfl) (resV.cellA tbk hs69 1 rfl rfl rfl rfl) ?_)))))
 have hv : vpPlain p b = (vp0, ⟨1, 65533, false, []⟩) := by unfold vpPlain; rw [if_neg hn1, if_neg (by omega), if_neg hn3, if_neg (by simpa using h59)]
 try simp only [List.nil_append] at *
 obtain ⟨L73, hs72, ho74⟩ := ownVpR.fl hs69 (OwnF.nil _ _) (OwnF.nil _ _)
 have hs75 := (((hs72.fb b2).fb b4).fb b38)
 refine ⟨⟨0, false, ⟨none, 0, 0, []⟩, ⟨none, 0, 0, []⟩⟩, _, ⟨(1), (65533), false, ⟨none, 0, 0, []⟩⟩, _, rfl, (St.drop ((hs75.fr ([] : Hp)).fr L73) (List.Sublist.append_left (List.sublist_append_left ([] : Hp) _) L73)), ?_, ?_, ?_, ?_⟩
 · exact (by exact ho74)
 · exact (OwnF.nil _ _)
 · rw [hv]; rfl
 · rw [hv]; rfl
theorem k27_ (p : VpR) (b : Int) (w : World) (f_p : okVpR 549755813888 w p) (hn : p.Part.n ≤ 1048576) :
    Calls Tryd.prog 54 #[.agg #[i64 p.State, .bool p.Mark, .slice p.Args.A p.Args.n p.Args.c, .slice p.Part.A p.Part.n p.Part.c], i64 b] w fun e w' => ∃ r0 L0 r1 L1, e = .returned (.tuple #[.agg #[i64 r0.State, .bool r0.Mark, .slice r0.Args.A r0.Args.n r0.Args.c, .slice r0.Part.A r0.Part.n r0.Part.c], .agg #[i64 r1.Kind, i64 r1.R, .bool r1.Mark, .slice r1.Args.A r1.Args.n r1.Args.c]]) ∧ St w [] (L0 ++ L1) w' ∧ ownVpR r0 L0 ∧ ownActR r1 L1 ∧ r0.dat = (vpPlain p.Part.xs b).1 ∧ r1.dat = (vpPlain p.Part.xs b).2 := by
 have nb_p_Args := f_p.Args_n
 have nl_p_Args := f_p.Args.len
 have nb_p_Part := f_p.Part_n
 have nl_p_Part := f_p.Part.len
 have hpl := f_p.Part.len
 refine enter 51 Tryd.func54 rfl Tryd.ntmps54 rfl rfl ?_
 have hs1 := St.init w
 refine WC.sr (WL.bx hs1 rfl (fun b2 _ hs3 => WL.al hs3 Tryd.zeroValue26 rfl rfl (fun b4 _ hs5 => WL.al hs5 Tryd.zeroValue33 rfl rfl (fun b6 _ hs7 => WL.nil (WC.seq (fun K8 hK8 => WC.block (WC.sr ?_)))))))
 refine WL.r 3 hs7 [] rfl (WL.pO tbk 2 Acts.nil hs7 [] rfl rfl rfl rfl (fun g_ => trivial) (WL.r 1 hs7 [] rfl (WL.nil (WC.cq rfl (fun h9 qh9 => ?_) (fun h9 qh9 => ?_)))))
 ·refine WC.sr ?_
  refine WL.val rfl rfl rfl (Run.build rfl rfl rfl rfl (built_26)) (WL.r 1 hs7 [] rfl ?_)
  refine WL.val rfl rfl rfl (Run.build rfl rfl rfl rfl (built_33_0_1 _ _)) (WL.st tbk hs7 1 rfl rfl (fun _ hs10 => WL.st tbk hs10 0 rfl rfl (fun _ hs11 => WL.nil (WC.ret (ibR (tkR ?_))))))
  clear hK8
  refine retV2 rfl (resV.cellA tbk hs11 1 rfl rfl rfl rfl) (resV.cellA tbk hs11 0 rfl rfl rfl rfl) ?_
  have hv : vpPlain p.Part.xs b = (vp0, ⟨2, b, false, []⟩) := by unfold vpPlain; rw [if_pos (by simp at qh9; omega)]
  try simp only [List.nil_append] at *
  obtain ⟨L15, hs14, ho16⟩ := ownVpR.fl hs11 (OwnF.nil _ _) (OwnF.nil _ _)
  have hs17 := (((hs14.fb b2).fb b4).fb b6)
  refine ⟨⟨0, false, ⟨none, 0, 0, []⟩, ⟨none, 0, 0, []⟩⟩, _, ⟨(2), b, false, ⟨none, 0, 0, []⟩⟩, _, rfl, (St.drop ((hs17.fr ([] : Hp)).fr L15) (List.Sublist.append_left (List.sublist_append_left ([] : Hp) _) L15)), ?_, ?_, ?_, ?_⟩
  · exact (by exact ho16)
  · exact (OwnF.nil _ _)
  · rw [hv]; rfl
  · rw [hv]; rfl
 have hn1 : ¬ (b < 32 ∨ b = 127) := by simp at qh9; omega
 refine WC.r1 hs7 [] rfl (WC.cD rfl (fun qh19 => ?_) (fun qh19 => ?_))
 ·refine WC.sr ?_
  refine WL.val rfl rfl rfl (Run.build rfl rfl rfl rfl (built_26)) (WL.r 1 hs7 [] rfl ?_)
  refine WL.val rfl rfl rfl (Run.build rfl rfl rfl rfl (built_33_0_1 _ _)) (WL.st tbk hs7 1 rfl rfl (fun _ hs20 => WL.st tbk hs20 0 rfl rfl (fun _ hs21 => WL.nil (WC.ret (ibR (tkR ?_))))))
  clear hK8
  refine retV2 rfl (resV.cellA tbk hs21 1 rfl rfl rfl rfl) (resV.cellA tbk hs21 0 rfl rfl rfl rfl) ?_
  have hv : vpPlain p.Part.xs b = (vp0, ⟨1, b, false, []⟩) := by unfold vpPlain; rw [if_neg (by simp at *; omega), if_pos (by omega)]
  try simp only [List.nil_append] at *
  obtain ⟨L25, hs24, ho26⟩ := ownVpR.fl hs21 (OwnF.nil _ _) (OwnF.nil _ _)
  have hs27 := (((hs24.fb b2).fb b4).fb b6)
  refine ⟨⟨0, false, ⟨none, 0, 0, []⟩, ⟨none, 0, 0, []⟩⟩, _, ⟨(1), b, false, ⟨none, 0, 0, []⟩⟩, _, rfl, (St.drop ((hs27.fr ([] : Hp)).fr L25) (List.Sublist.append_left (List.sublist_append_left ([] : Hp) _) L25)), ?_, ?_, ?_, ?_⟩
  · exact (by exact ho26)
  · exact (OwnF.nil _ _)
  · rw [hv]; rfl
  · rw [hv]; rfl
 refine WC.skip (hK8 _ _ (WC.sr (WL.r 2 hs7 [2] rfl ?_)))
 refine WL.cl Tryd.call53 rfl (k11_ _ _ _ _ _ (SlF.st0 f_p.Part hs7) ?_) ?_
 · first | assumption | rfl | omega | (simp; omega)
 rintro _ whs29 ⟨A30, c31, L1_32, rfl, hs29, ho33⟩
 replace hs29 := hs7.callF hs29
 refine ⟨_, rfl, ?_⟩
 replace hs29 := St.back [_, _, _] hs29
 refine WL.r 2 hs29 [] rfl (WL.buildSlice hs29 Tryd.runUnderlying22 Tryd.sizeOf5 Tryd.zeroValue5 rfl rfl rfl rfl rfl rfl rfl rfl rfl rfl (fun b34 whs35 hs35 => ?_))
 refine WL.appendG (hs35.fr L1_32) ho33 (srcB1 Tryd.underlying22 (hs35.own _ (nthL_mem (i := 0) rfl)).1) Tryd.underlying22 inf5 rfl rfl rfl rfl rfl rfl rfl rfl rfl rfl ?_ (fun A39 c40 L36 whs37 hs37 ho38 => ?_)
 · first | omega | (simp; omega)
 replace hs37 := St.back [_, _, _, _] hs37
 refine WL.r 1 hs37 [] rfl (WL.nil (WC.seq (fun K41 hK41 => WC.sr (WL.r 1 hs37 [] rfl ?_))))
 refine WL.cl Tryd.call64 rfl (k13_ _ _ _ _ _ (SlF.ofOwn ho38 (hs37.ow L36)) (OwnF.cap ho38) ?_) ?_
 · first | assumption | rfl | omega | (simp; omega)
 rintro _ whs42 ⟨rfl, hs42⟩
 replace hs42 := hs37.call0 hs42
 refine ⟨_, rfl, WL.r 5 hs42 [] rfl (WL.nil (WC.r1 hs42 [] rfl (WC.cD rfl (fun qh43 => ?_) (fun qh43 => ?_))))⟩
 ·refine WC.sr ?_
  refine WL.val rfl rfl rfl (Run.build rfl rfl rfl rfl (built_26)) (WL.r 1 hs42 [] rfl ?_)
  refine WL.val rfl rfl rfl (Run.build rfl rfl rfl rfl (built_33_0_1 _ _)) (WL.st tbk hs42 2 rfl rfl (fun _ hs44 => WL.st tbk hs44 1 rfl rfl (fun _ hs45 => WL.nil (WC.ret (tkR ?_)))))
  clear hK41
  refine retV2 rfl (resV.cellA tbk hs45 2 rfl rfl rfl rfl) (resV.cellA tbk hs45 1 rfl rfl rfl rfl) ?_
  have hv : vpPlain p.Part.xs b = (vp0, ⟨1, rvN (runeL (p.Part.xs ++ [ub b])), false, []⟩) := by unfold vpPlain; rw [if_neg hn1, if_neg (by omega), if_pos (by simpa [← Int.ofNat_inj] using qh43)]
  try simp only [List.nil_append] at *
  obtain ⟨L49, hs48, ho50⟩ := ownVpR.fl hs45 (OwnF.nil _ _) (OwnF.nil _ _)
  have hs51 := ((((hs48.fb b2).fb b4).fb b6).fb b34)
  refine ⟨⟨0, false, ⟨none, 0, 0, []⟩, ⟨none, 0, 0, []⟩⟩, _, ⟨(1), _, false, ⟨none, 0, 0, []⟩⟩, _, rfl, (St.drop ((hs51.fr ([] : Hp)).fr L49) (List.Sublist.append_left (List.sublist_append_left ([] : Hp) _) L49)), ?_, ?_, ?_, ?_⟩
  · exact (by exact ho50)
  · exact (OwnF.nil _ _)
  · rw [hv]; rfl
  · rw [hv]; rfl
 have hn3 : ¬ rvS (runeL (p.Part.xs ++ [ub b])) = (p.Part.xs ++ [ub b]).length := by simpa [← Int.ofNat_inj] using qh43
 refine WC.skip (hK41 _ _ (WC.seq (fun K53 hK53 => WC.sr (WL.r 1 hs42 [] rfl ?_))))
 refine WL.cl Tryd.call18 rfl (k15_ _ _ _ _ _ (SlF.ofOwn ho38 (hs42.ow L36)) (OwnF.cap ho38) ?_) ?_
 · first | assumption | rfl | omega | (simp; omega)
 rintro _ whs54 ⟨rfl, hs54⟩
 replace hs54 := hs42.call0 hs54
 refine ⟨_, rfl, WL.nil (WC.cq rfl (fun h55 qh55 => ?_) (fun h55 qh55 => ?_))⟩
 ·refine WC.sr (WL.r 1 hs54 [] rfl ?_)
  refine WL.val rfl rfl rfl (Run.build rfl rfl rfl rfl (built_26_3 _ _ _)) ?_
  refine WL.val rfl rfl rfl (Run.build rfl rfl rfl rfl (built_33)) (WL.st tbk hs54 2 rfl rfl (fun _ hs56 => WL.st tbk hs56 1 rfl rfl (fun _ hs57 => WL.nil (WC.ret (tkR ?_)))))
  clear hK53
  refine retV2 rfl (resV.cellA tbk hs57 2 rfl rfl rfl rfl) (resV.cellA tbk hs57 1 rfl rfl rfl rfl) ?_
  have hv : vpPlain p.Part.xs b = (⟨0, false, [], p.Part.xs ++ [ub b]⟩, act0) := by unfold vpPlain; rw [if_neg hn1, if_neg (by omega), if_neg hn3, if_pos (by simpa using h55)]
  try simp only [List.nil_append] at *
  obtain ⟨L60, hs59, ho61⟩ := ownVpR.fl hs57 (OwnF.nil _ _) ho38
  have hs62 := ((((hs59.fb b2).fb b4).fb b6).fb b34)
  refine ⟨⟨0, false, ⟨none, 0, 0, []⟩, SlD.of ho38⟩, _, ⟨0, 0, false, ⟨none, 0, 0, []⟩⟩, _, rfl, (St.drop ((hs62.fr ([] : Hp)).fr L60) (List.Sublist.append_left (List.sublist_append_left ([] : Hp) _) L60)), ?_, ?_, ?_, ?_⟩
  · exact (by exact ho61)
  · exact (OwnF.nil _ _)
  · rw [hv]; rfl
  · rw [hv]; rfl
 refine WC.skip (hK53 _ _ (WC.sr ?_))
 refine WL.val rfl rfl rfl (Run.build rfl rfl rfl rfl (built_26)) ?_
 refine WL.val rfl rfl rfl (Run.build rfl rfl rfl rfl (built_33_0_1 _ _)) (WL.st tbk hs54 2 rfl rfl (fun _ hs64 => WL.st tbk hs64 1 rfl rfl (fun _ hs65 => WL.nil (WC.ret (retV2 rfl (resV.cellA tbk hs65 2 rfl rfl rfl rfl) (resV.cellA tbk hs65 1 rfl rfl rfl rfl) ?_)))))
 have hv : vpPlain p.Part.xs b = (vp0, ⟨1, 65533, false, []⟩) := by unfold vpPlain; rw [if_neg hn1, if_neg (by omega), if_neg hn3, if_neg (by simpa using h55)]
 try simp only [List.nil_append] at *
 obtain ⟨L69, hs68, ho70⟩ := ownVpR.fl hs65 (OwnF.nil _ _) (OwnF.nil _ _)
 have hs71 := ((((hs68.fb b2).fb b4).fb b6).fb b34)
 refine ⟨⟨0, false, ⟨none, 0, 0, []⟩, ⟨none, 0, 0, []⟩⟩, _, ⟨(1), (65533), false, ⟨none, 0, 0, []⟩⟩, _, rfl, (St.drop ((hs71.fr ([] : Hp)).fr L69) (List.Sublist.append_left (List.sublist_append_left ([] : Hp) _) L69)), ?_, ?_, ?_, ?_⟩
 · exact (by exact ho70)
 · exact (OwnF.nil _ _)
 · rw [hv]; rfl
 · rw [hv]; rfl
theorem k28_ (p : VpR) (d : Int) (w : World) (f_p : okVpR 549755813888 w p) (hsm : smVp 1048576 p.dat) (hok : areArgs p.dat.Args = true) (hd : 0 ≤ d ∧ d ≤ 9) :
    Calls Tryd.prog 65 #[.agg #[i64 p.State, .bool p.Mark, .slice p.Args.A p.Args.n p.Args.c, .slice p.Part.A p.Part.n p.Part.c], i64 d] w fun e w' => ∃ r L1, e = .returned (.agg #[i64 r.State, .bool r.Mark, .slice r.Args.A r.Args.n r.Args.c, .slice r.Part.A r.Part.n r.Part.c]) ∧ St w [] L1 w' ∧ ownVpR r L1 ∧ r.dat = vpDigit p.dat d := by
 have nb_p_Args := f_p.Args_n
 have nl_p_Args := f_p.Args.len
 have nb_p_Part := f_p.Part_n
 have nl_p_Part := f_p.Part.len
 have hsB : smVp 549755813888 p.dat := ⟨Nat.le_trans hsm.1 (by decide), Nat.le_trans hsm.2 (by decide)⟩
 have hsa : p.Args.xs.length ≤ 1048576 := hsm.1
 have hsp : p.Part.xs.length ≤ 1048576 := hsm.2
 refine enter 32 Tryd.func65 rfl Tryd.ntmps65 rfl rfl ?_
 have hs1 := St.init w
 refine WC.sr (WL.bx hs1 rfl (fun b2 _ hs3 => WL.al hs3 Tryd.zeroValue26 rfl rfl (fun b4 _ hs5 => WL.nil (WC.sr (WL.r 1 hs5 [1] rfl ?_)))))
 refine WL.cl Tryd.call35 rfl (k24_ p _ (okVpR.st0 f_p hs5) ?_) ?_
 · first | assumption | rfl | omega
 rintro _ whs6 ⟨r7, L1_8, rfl, hs6, ho9, hd10⟩
 replace hs6 := hs5.callF hs6
 refine ⟨_, rfl, ?_⟩
 replace hs6 := St.back [_, _] hs6
 have hlr := ownVpR.len ho9
 have hxr : r7.Args.xs = p.Args.xs := congrArg VpD.Args hd10
 have hpr : r7.Part.xs = p.Part.xs := congrArg VpD.Part hd10
 have hxp : p.dat.Args = p.Args.xs := rfl
 have hlx : r7.Args.xs.length = p.Args.xs.length := by rw [hxr]
 have hly : r7.Part.xs.length = p.Part.xs.length := by rw [hpr]
 refine WL.al hs6 Tryd.zeroValue26 rfl rfl (fun b11 _ hs12 => WL.st tbk hs12 0 rfl rfl (fun _ hs13 => WL.nil (WC.seq (fun K14 hK14 => WC.r1 hs13 [0] rfl ?_))))
 refine WC.cD rfl (fun qh15 => ?_) (fun qh15 => ?_)
 ·have gb : gat encI [0] ((([0] : List Int).length : Int) - 1).toNat = 0 := rfl
  refine WC.region (WL.buildF (F := encI) hs13 ([0]) Tryd.runUnderlying24 Tryd.sizeOf3 Tryd.zeroValue3 rfl rfl rfl rfl rfl rfl rfl rfl rfl rfl rfl rfl (fun A19 c20 L16 whs17 hs17 ho18 => ?_))
  replace hs17 := St.back [_, _, _] hs17
  refine WL.r 1 hs17 [] rfl (WL.st tbk hs17 0 rfl rfl (fun _ hs21 => WL.nil (hK14 _ _ (WC.sr ?_))))
  refine WL.run tbk 6 hs21 [0, 0] rfl ⟨by first | omega | (simp; done) | (simp; omega) | omega, rfl, rfl, trivial⟩ (WL.val rfl rfl rfl (Run.idx Tryd.runUnderlying24 Tryd.sizeOf3 rfl rfl rfl ?_ ?_ ?_) ?_)
  · exact SlF.some_ (SlF.ofOwn ho18 (hs21.ow L16))
  · first | omega | (simp; done) | (simp; omega) | omega
  · first | omega | (simp; done) | (simp; omega) | omega
  refine WL.r 1 hs21 [] rfl (WL.nil (WC.sr (WL.r 3 hs21 [] rfl (WL.val rfl rfl rfl (Run.load Tryd.isAgg3 rfl rfl (SlF.one1 (SlF.ofOwn ho18 (hs21.ow L16)) ?_ rfl)) ?_))))
  · first | omega | (simp; done) | (simp; omega) | omega
  refine WL.run tbk 5 hs21 [] rfl ⟨by first | omega | (simp; done) | (simp; omega) | omega, by first | omega | (simp; done) | (simp; omega) | omega, trivial⟩ (WL.storeF1 (x' := _) (hs21.fr L16) ho18 Tryd.sizeOf3 rfl rfl rfl rfl rfl rfl rfl rfl rfl ?_ rfl (fun L22 whs23 hs23 ho24 _ => ?_))
  · first | omega | (simp; done) | (simp; omega) | omega
  replace hs23 := St.back [_, _, _] hs23
  refine WL.nil (WC.sr (WL.r 1 hs23 [0] rfl (WL.st tbk hs23 1 rfl rfl (fun _ hs25 => WL.nil (WC.ret (retV1 rfl (resV.cellA tbk hs25 1 rfl rfl rfl rfl) ?_))))))
  obtain ⟨L26, L27, hs30, ho28, ho29⟩ := ownVpR.op hs25 ho9
  have hs31 := (((hs30.fb b2).fb b4).fb b11)
  obtain ⟨L33, hs32, ho34⟩ := ownVpR.fl hs31 ho24 ho29
  have hs35 := (((hs32.fb b2).fb b4).fb b11)
  refine ownVpR.ret rfl (St.keep1 (hs35.fr L33)) ho34 ?_
  · show VpD.mk r7.State r7.Mark _ r7.Part.xs = _
    rw [← hd10, vpDigit_A (show r7.dat.Args.length = 0 from (by omega : r7.Args.xs.length = 0))]; rfl
 have gb := areArgs_gat (k := ((r7.Args.n : Int) - 1).toNat) hok (by rw [hxp, ← hxr]; omega)
 rw [hxp, ← hxr] at gb
 refine WC.skip (hK14 _ _ (WC.sr ?_))
 refine WL.run tbk 6 hs13 [0, 0] rfl ⟨by first | omega | (simp; done) | (simp; omega) | omega, rfl, rfl, trivial⟩ (WL.val rfl rfl rfl (Run.idx Tryd.runUnderlying24 Tryd.sizeOf3 rfl rfl rfl ?_ ?_ ?_) ?_)
 · exact SlF.some_ (ownVpR.ok (B := 549755813888) ho9 (hs13.ow L1_8) (by rw [hd10]; assumption)).Args
 · first | omega | (simp; done) | (simp; omega) | omega
 · first | omega | (simp; done) | (simp; omega) | omega
 refine WL.r 1 hs13 [] rfl (WL.nil (WC.sr (WL.r 3 hs13 [] rfl ?_)))
 refine WL.val rfl rfl rfl (Run.load Tryd.isAgg3 rfl rfl (SlF.one1 (ownVpR.ok (B := 549755813888) ho9 (hs13.ow L1_8) (by rw [hd10]; assumption)).Args ?_ rfl)) ?_
 · first | omega | (simp; done) | (simp; omega) | omega
 refine WL.run tbk 5 hs13 [] rfl ⟨by first | omega | (simp; done) | (simp; omega) | omega, by first | omega | (simp; done) | (simp; omega) | omega, trivial⟩ ?_
 obtain ⟨L36, L37, hs40, ho38, ho39⟩ := ownVpR.op hs13 ho9
 have hs41 := (((hs40.fb b2).fb b4).fb b11)
 refine WL.storeF1 (x' := _) (hs41.fr L36) ho38 Tryd.sizeOf3 rfl rfl rfl rfl rfl rfl rfl rfl rfl ?_ rfl (fun L42 whs43 hs43 ho44 _ => ?_)
 · first | omega | (simp; done) | (simp; omega) | omega
 replace hs43 := St.back [_, _, _] hs43
 refine WL.nil (WC.sr (WL.r 1 hs43 [0] rfl (WL.st tbk hs43 1 rfl rfl (fun _ hs45 => WL.nil (WC.ret (retV1 rfl (resV.cellA tbk hs45 1 rfl rfl rfl rfl) ?_))))))
 obtain ⟨L47, hs46, ho48⟩ := ownVpR.fl hs45 ho44 ho39
 have hs49 := (((hs46.fb b2).fb b4).fb b11)
 refine ownVpR.ret rfl (St.keep1 (hs49.fr L47)) ho48 ?_
 · show VpD.mk r7.State r7.Mark (r7.Args.xs.set ((r7.Args.n : Int) - 1).toNat (min 9999 (10 * gat encI r7.Args.xs ((r7.Args.n : Int) - 1).toNat + d))) r7.Part.xs = _
   rw [← hd10, vpDigit_B (show ¬ r7.dat.Args.length = 0 from (by omega : ¬ r7.Args.xs.length = 0)), show ((r7.Args.n : Int) - 1).toNat = r7.Args.xs.length - 1 by omega]; rfl
theorem k29_ (p : VpR) (w : World) (f_p : okVpR 549755813888 w p) (hsm : smVp 1048576 p.dat) (hok : areArgs p.dat.Args = true) :
    Calls Tryd.prog 66 #[.agg #[i64 p.State, .bool p.Mark, .slice p.Args.A p.Args.n p.Args.c, .slice p.Part.A p.Part.n p.Part.c]] w fun e w' => ∃ r L1, e = .returned (.agg #[i64 r.State, .bool r.Mark, .slice r.Args.A r.Args.n r.Args.c, .slice r.Part.A r.Part.n r.Part.c]) ∧ St w [] L1 w' ∧ ownVpR r L1 ∧ r.dat = vpNext p.dat := by
 have nb_p_Args := f_p.Args_n
 have nl_p_Args := f_p.Args.len
 have nb_p_Part := f_p.Part_n
 have nl_p_Part := f_p.Part.len
 have hsB : smVp 549755813888 p.dat := ⟨Nat.le_trans hsm.1 (by decide), Nat.le_trans hsm.2 (by decide)⟩
 have hsa : p.Args.xs.length ≤ 1048576 := hsm.1
 have hsp : p.Part.xs.length ≤ 1048576 := hsm.2
 refine enter 27 Tryd.func66 rfl Tryd.ntmps66 rfl rfl ?_
 have hs1 := St.init w
 refine WC.sr (WL.bx hs1 rfl (fun b2 _ hs3 => WL.al hs3 Tryd.zeroValue26 rfl rfl (fun b4 _ hs5 => WL.nil (WC.sr (WL.r 1 hs5 [1] rfl ?_)))))
 refine WL.cl Tryd.call35 rfl (k24_ p _ (okVpR.st0 f_p hs5) ?_) ?_
 · first | assumption | rfl | omega
 rintro _ whs6 ⟨r7, L1_8, rfl, hs6, ho9, hd10⟩
 replace hs6 := hs5.callF hs6
 refine ⟨_, rfl, ?_⟩
 replace hs6 := St.back [_, _] hs6
 have hlr := ownVpR.len ho9
 have hxr : r7.Args.xs = p.Args.xs := congrArg VpD.Args hd10
 have hpr : r7.Part.xs = p.Part.xs := congrArg VpD.Part hd10
 have hxp : p.dat.Args = p.Args.xs := rfl
 have hlx : r7.Args.xs.length = p.Args.xs.length := by rw [hxr]
 have hly : r7.Part.xs.length = p.Part.xs.length := by rw [hpr]
 refine WL.al hs6 Tryd.zeroValue26 rfl rfl (fun b11 _ hs12 => WL.st tbk hs12 0 rfl rfl (fun _ hs13 => WL.nil (WC.seq (fun K14 hK14 => WC.r1 hs13 [0] rfl ?_))))
 refine WC.cD rfl (fun qh15 => ?_) (fun qh15 => ?_)
 ·refine WC.region (WL.buildF (F := encI) hs13 ([0]) Tryd.runUnderlying24 Tryd.sizeOf3 Tryd.zeroValue3 rfl rfl rfl rfl rfl rfl rfl rfl rfl rfl rfl rfl (fun A19 c20 L16 whs17 hs17 ho18 => ?_))
  replace hs17 := St.back [_, _, _] hs17
  refine WL.r 1 hs17 [] rfl (WL.st tbk hs17 0 rfl rfl (fun _ hs21 => WL.nil (hK14 _ _ (WC.seq (fun K22 hK22 => WC.sr (WL.r 2 hs21 [0] rfl (WL.buildSlice hs21 Tryd.runUnderlying24 Tryd.sizeOf3 Tryd.zeroValue3 rfl rfl rfl rfl rfl rfl rfl rfl rfl rfl (fun b23 whs24 hs24 => ?_))))))))
  refine WL.appendG (hs24.fr L16) ho18 (srcI1 Tryd.underlying24 (hs24.own _ (nthL_mem (i := 0) rfl)).1) Tryd.underlying24 inf3 rfl rfl rfl rfl rfl rfl rfl rfl rfl rfl ?_ (fun A28 c29 L25 whs26 hs26 ho27 => ?_)
  · first | omega | (simp; done) | (simp; omega) | omega
  replace hs26 := St.back [_, _, _, _] hs26
  refine WL.r 1 hs26 [] rfl (WL.st tbk hs26 1 rfl rfl (fun _ hs30 => WL.nil (WC.r1 hs30 [1] rfl ?_)))
  refine WC.cD rfl (fun qh31 => ?_) (fun qh31 => ?_)
  ·refine WC.rH (hs30.fb b11).d1 hs30 (fun _ hs32 => ?_)
   refine WH.rn [0] (hs32.fb b11).d1 [] rfl rfl (WH.o1 1 rfl (WL.r 1 hs32 [1] rfl (WL.nil ⟨(hs32.fb b11).d1, ?_⟩)))
   have ho33 := OwnF.take (k := 8) ho27 (by first | omega | (simp at *; done) | (simp at *; omega) | omega)
   have hcho33 := OwnF.cap ho33
   refine WH.take 2 rfl (by kernel_rfl) rfl rfl rfl (hs32.fb b11).d1 (fun w_ hs_ => (Run.sliceH0 (8) Tryd.runUnderlying24 Tryd.sizeOf3 rfl rfl rfl ?_ ?_)) ?_
   · first | rfl | (first | omega | (simp at *; done) | (simp at *; omega) | omega)
   · first | (exact Nat.zero_le _) | (first | omega | (simp at *; done) | (simp at *; omega) | omega)
   refine WH.rn [3] (hs32.fb b11).d1 [] rfl rfl (WH.o1 4 rfl (WL.st tbk hs32 1 rfl rfl (fun _ hs34 => WL.nil ⟨(hs34.fb b11).d1, WH.rn [5] (hs34.fb b11).d1 [] rfl rfl (WH.o1 6 rfl (WL.st tbk hs34 1 rfl rfl (fun _ hs35 => WL.nil ⟨(hs35.fb b11).d1, ?_⟩)))⟩)))
   refine WH.dn (hK22 _ _ (WC.sr (WL.r 1 hs35 [1] rfl (WL.st tbk hs35 2 rfl rfl (fun _ hs36 => WL.nil (WC.ret (retV1 rfl (resV.cellA tbk hs36 2 rfl rfl rfl rfl) ?_)))))))
   obtain ⟨L37, L38, hs41, ho39, ho40⟩ := ownVpR.op hs36 ho9
   have hs42 := ((((hs41.fb b2).fb b4).fb b11).fb b23)
   obtain ⟨L44, hs43, ho45⟩ := ownVpR.fl hs42 ho33 ho40
   have hs46 := ((((hs43.fb b2).fb b4).fb b11).fb b23)
   refine ownVpR.ret rfl (St.keep1 (hs46.fr L44)) ho45 ?_
   · exfalso; simp at qh31
  refine WC.skip (hK22 _ _ (WC.sr (WL.r 1 hs30 [1] rfl (WL.st tbk hs30 2 rfl rfl (fun _ hs47 => WL.nil (WC.ret (retV1 rfl (resV.cellA tbk hs47 2 rfl rfl rfl rfl) ?_)))))))
  obtain ⟨L48, L49, hs52, ho50, ho51⟩ := ownVpR.op hs47 ho9
  have hs53 := ((((hs52.fb b2).fb b4).fb b11).fb b23)
  obtain ⟨L55, hs54, ho56⟩ := ownVpR.fl hs53 ho27 ho51
  have hs57 := ((((hs54.fb b2).fb b4).fb b11).fb b23)
  refine ownVpR.ret rfl (St.keep1 (hs57.fr L55)) ho56 ?_
  · show VpD.mk r7.State r7.Mark _ r7.Part.xs = _
    rw [← hd10, vpNext_A (show r7.dat.Args.length = 0 from (by omega : r7.Args.xs.length = 0))]; rfl
 refine WC.skip (hK14 _ _ (WC.seq (fun K58 hK58 => WC.sr (WL.r 2 hs13 [0] rfl (WL.buildSlice hs13 Tryd.runUnderlying24 Tryd.sizeOf3 Tryd.zeroValue3 rfl rfl rfl rfl rfl rfl rfl rfl rfl rfl (fun b59 whs60 hs60 => ?_))))))
 obtain ⟨L61, L62, hs65, ho63, ho64⟩ := ownVpR.op hs60 ho9
 have hs66 := ((((hs65.fb b2).fb b4).fb b11).fb b59)
 refine WL.appendG (hs66.fr L61) ho63 (srcI1 Tryd.underlying24 (hs66.own _ (nthL_mem (i := 0) rfl)).1) Tryd.underlying24 inf3 rfl rfl rfl rfl rfl rfl rfl rfl rfl rfl ?_ (fun A70 c71 L67 whs68 hs68 ho69 => ?_)
 · first | omega | (simp; done) | (simp; omega) | omega
 replace hs68 := St.back [_, _, _, _] hs68
 refine WL.r 1 hs68 [] rfl (WL.st tbk hs68 1 rfl rfl (fun _ hs72 => WL.nil (WC.r1 hs72 [1] rfl ?_)))
 refine WC.cD rfl (fun qh73 => ?_) (fun qh73 => ?_)
 ·refine WC.rH (hs72.fb b11).d1 hs72 (fun _ hs74 => ?_)
  refine WH.rn [0] (hs74.fb b11).d1 [] rfl rfl (WH.o1 1 rfl (WL.r 1 hs74 [1] rfl (WL.nil ⟨(hs74.fb b11).d1, ?_⟩)))
  have ho75 := OwnF.take (k := 8) ho69 (by first | omega | (simp at *; done) | (simp at *; omega) | omega)
  have hcho75 := OwnF.cap ho75
  refine WH.take 2 rfl (by kernel_rfl) rfl rfl rfl (hs74.fb b11).d1 (fun w_ hs_ => (Run.sliceH0 (8) Tryd.runUnderlying24 Tryd.sizeOf3 rfl rfl rfl ?_ ?_)) ?_
  · first | rfl | (first | omega | (simp at *; done) | (simp at *; omega) | omega)
  · first | (exact Nat.zero_le _) | (first | omega | (simp at *; done) | (simp at *; omega) | omega)
  refine WH.rn [3] (hs74.fb b11).d1 [] rfl rfl (WH.o1 4 rfl (WL.st tbk hs74 1 rfl rfl (fun _ hs76 => WL.nil ⟨(hs76.fb b11).d1, WH.rn [5] (hs76.fb b11).d1 [] rfl rfl (WH.o1 6 rfl (WL.st tbk hs76 1 rfl rfl (fun _ hs77 => WL.nil ⟨(hs77.fb b11).d1, ?_⟩)))⟩)))
  refine WH.dn (hK58 _ _ (WC.sr (WL.r 1 hs77 [1] rfl (WL.st tbk hs77 2 rfl rfl (fun _ hs78 => WL.nil (WC.ret (retV1 rfl (resV.cellA tbk hs78 2 rfl rfl rfl rfl) ?_)))))))
  obtain ⟨L80, hs79, ho81⟩ := ownVpR.fl hs78 ho75 ho64
  have hs82 := ((((hs79.fb b2).fb b4).fb b11).fb b59)
  refine ownVpR.ret rfl (St.keep1 (hs82.fr L80)) ho81 ?_
  · show VpD.mk 3 r7.Mark _ r7.Part.xs = _
    rw [← hd10, vpNext_C (show 8 < r7.dat.Args.length + 1 from (by simp at qh73; omega : 8 < r7.Args.xs.length + 1))]; rfl
 refine WC.skip (hK58 _ _ (WC.sr (WL.r 1 hs72 [1] rfl (WL.st tbk hs72 2 rfl rfl (fun _ hs83 => WL.nil (WC.ret (retV1 rfl (resV.cellA tbk hs83 2 rfl rfl rfl rfl) ?_)))))))
 obtain ⟨L85, hs84, ho86⟩ := ownVpR.fl hs83 ho69 ho64
 have hs87 := ((((hs84.fb b2).fb b4).fb b11).fb b59)
 refine ownVpR.ret rfl (St.keep1 (hs87.fr L85)) ho86 ?_
 · show VpD.mk r7.State r7.Mark _ r7.Part.xs = _
   rw [← hd10, vpNext_B (show ¬ r7.dat.Args.length = 0 from (by omega : ¬ r7.Args.xs.length = 0)) (show r7.dat.Args.length + 1 ≤ 8 from (by simp at qh73; omega : r7.Args.xs.length + 1 ≤ 8))]; rfl
theorem built_33_0_1_2_3 (x0 : Int) (x1 : Int) (x2 : Bool) (x3 : Option Addr) (x4 : Nat) (x5 : Nat) : Tryd.prog.built 33 [(0, .int .i64 x0), (1, .int .i64 x1), (2, .bool x2), (3, .slice x3 x4 x5)] = some (List.toArray [.int .i64 x0, .int .i64 x1, .bool x2, .slice x3 x4 x5]) := by kernel_rfl
theorem built_26_0 (x0 : Int) : Tryd.prog.built 26 [(0, .int .i64 x0)] = some (List.toArray [.int .i64 x0, .bool false, .slice none 0 0, .slice none 0 0]) := by kernel_rfl
theorem k30_ (p : VpR) (b : Int) (w : World) (f_p : okVpR 549755813888 w p) (hsm : smVp 1048576 p.dat) (hok : areArgs p.dat.Args = true) (hb : 0 ≤ b ∧ b ≤ 255) :
    Calls Tryd.prog 55 #[.agg #[i64 p.State, .bool p.Mark, .slice p.Args.A p.Args.n p.Args.c, .slice p.Part.A p.Part.n p.Part.c], i64 b] w fun e w' => ∃ r0 L0 r1 L1, e = .returned (.tuple #[.agg #[i64 r0.State, .bool r0.Mark, .slice r0.Args.A r0.Args.n r0.Args.c, .slice r0.Part.A r0.Part.n r0.Part.c], .agg #[i64 r1.Kind, i64 r1.R, .bool r1.Mark, .slice r1.Args.A r1.Args.n r1.Args.c]]) ∧ St w [] (L0 ++ L1) w' ∧ ownVpR r0 L0 ∧ ownActR r1 L1 ∧ r0.dat = (vpCsi p.dat b).1 ∧ r1.dat = (vpCsi p.dat b).2 := by
 have nb_p_Args := f_p.Args_n
 have nl_p_Args := f_p.Args.len
 have nb_p_Part := f_p.Part_n
 have nl_p_Part := f_p.Part.len
 have hsB : smVp 549755813888 p.dat := ⟨Nat.le_trans hsm.1 (by decide), Nat.le_trans hsm.2 (by decide)⟩
 have hsa : p.Args.xs.length ≤ 1048576 := hsm.1
 have hsp : p.Part.xs.length ≤ 1048576 := hsm.2
 have hal := f_p.Args.len
 refine enter 63 Tryd.func55 rfl Tryd.ntmps55 rfl rfl ?_
 have hs1 := St.init w
 refine WC.sr (WL.bx hs1 rfl (fun b2 _ hs3 => WL.al hs3 Tryd.zeroValue26 rfl rfl (fun b4 _ hs5 => WL.al hs5 Tryd.zeroValue33 rfl rfl (fun b6 _ hs7 => WL.nil (WC.sr (WL.r 1 hs7 [2] rfl ?_))))))
 refine WL.cl Tryd.call35 rfl (k24_ p _ (okVpR.st0 f_p hs7) ?_) ?_
 · first | assumption | rfl | omega | (simp; omega)
 rintro _ whs8 ⟨r9, L1_10, rfl, hs8, ho11, hd12⟩
 replace hs8 := hs7.callF hs8
 refine ⟨_, rfl, ?_⟩
 replace hs8 := St.back [_, _, _] hs8
 have hlr := ownVpR.len ho11
 have hxr : r9.Args.xs = p.Args.xs := congrArg VpD.Args hd12
 have hpr : r9.Part.xs = p.Part.xs := congrArg VpD.Part hd12
 have hxp : p.dat.Args = p.Args.xs := rfl
 have hlx : r9.Args.xs.length = p.Args.xs.length := by rw [hxr]
 have hly : r9.Part.xs.length = p.Part.xs.length := by rw [hpr]
 skip
 refine WL.al hs8 Tryd.zeroValue26 rfl rfl (fun b13 _ hs14 => WL.st tbk hs14 0 rfl rfl (fun _ hs15 => WL.nil (WC.seq (fun K16 hK16 => WC.block (WC.sr (WL.r 3 hs15 [] rfl (WL.pA tbk 4 Acts.nil hs15 [3] rfl rfl rfl rfl (fun g_ => ⟨rfl, trivial⟩) ?_)))))))
 refine WL.r 1 hs15 [] rfl (WL.pA tbk 3 Acts.nil hs15 [3] rfl rfl rfl rfl (fun g_ => ⟨rfl, trivial⟩) (WL.r 1 hs15 [] rfl (WL.nil (WC.cq rfl (fun h17 qh17 => ?_) (fun h17 qh17 => ?_)))))
 ·have hc1 : (b = 63 ∧ p.dat.Args.length = 0) ∧ p.dat.Mark = false := by show (b = 63 ∧ p.Args.xs.length = 0) ∧ p.Mark = false; simp at qh17; exact ⟨⟨qh17.1.1, by omega⟩, qh17.2⟩
  refine WC.sr (WL.r 1 hs15 [] rfl (WL.st tbk hs15 0 rfl rfl (fun _ hs18 => WL.nil (WC.sr (WL.r 1 hs18 [0] rfl ?_)))))
  refine WL.val rfl rfl rfl (Run.build rfl rfl rfl rfl (built_33)) (WL.st tbk hs18 2 rfl rfl (fun _ hs19 => WL.st tbk hs19 1 rfl rfl (fun _ hs20 => WL.nil (WC.ret (ibR (tkR ?_))))))
  clear hK16
  refine retV2 rfl (resV.cellA tbk hs20 2 rfl rfl rfl rfl) (resV.cellA tbk hs20 1 rfl rfl rfl rfl) ?_
  have hv : vpCsi p.dat b = ({ p.dat with Mark := true }, act0) := by unfold vpCsi; rw [if_pos hc1]
  obtain ⟨L21, L22, hs25, ho23, ho24⟩ := ownVpR.op hs20 ho11
  have hs26 := ((((hs25.fb b2).fb b4).fb b6).fb b13)
  obtain ⟨L28, hs27, ho29⟩ := ownVpR.fl hs26 ho23 ho24
  have hs30 := ((((hs27.fb b2).fb b4).fb b6).fb b13)
  refine ⟨⟨r9.State, true, SlD.of ho23, SlD.of ho24⟩, _, ⟨0, 0, false, ⟨none, 0, 0, []⟩⟩, _, rfl, (St.drop ((hs30.fr ([] : Hp)).fr L28) (List.Sublist.append_left (List.sublist_append_left ([] : Hp) _) L28)), ?_, ?_, ?_, ?_⟩
  · exact (by exact ho29)
  · exact (OwnF.nil _ _)
  · rw [hv, ← hd12]; rfl
  · rw [hv]; first | exact rfl | rfl
 have hc1 : ¬ ((b = 63 ∧ p.dat.Args.length = 0) ∧ p.dat.Mark = false) := by show ¬ ((b = 63 ∧ p.Args.xs.length = 0) ∧ p.Mark = false); rintro ⟨⟨h1, h2⟩, h3⟩; rw [h3] at qh17; simp at qh17; omega
 refine WC.sr (WL.r 1 hs15 [] rfl (WL.cl Tryd.call23 rfl (k0_ _ _ _ _) ?_))
 rintro _ whs32 ⟨rfl, hs32⟩
 replace hs32 := hs15.call0 hs32
 refine ⟨_, rfl, WL.r 1 hs32 [] rfl (WL.nil (WC.cq rfl (fun h33 qh33 => ?_) (fun h33 qh33 => ?_)))⟩
 ·have hc2 : 48 ≤ b ∧ b ≤ 57 := by first | omega | (simp at qh33; omega)
  refine WC.sr (WL.r 3 hs32 [3] rfl (WL.cl Tryd.call65 rfl (k28_ p _ _ (okVpR.st0 f_p hs32) ?_ ?_ ?_) ?_))
  iterate 3 first | assumption | rfl | omega | (simp; omega)
  rintro _ whs34 ⟨r35, L1_36, rfl, hs34, ho37, hd38⟩
  replace hs34 := hs32.callF hs34
  refine ⟨_, rfl, ?_⟩
  replace hs34 := St.back [_, _, _, _] hs34
  refine WL.val rfl rfl rfl (Run.build rfl rfl rfl rfl (built_33)) (WL.st tbk hs34 2 rfl rfl (fun _ hs39 => WL.st tbk hs39 1 rfl rfl (fun _ hs40 => WL.nil (WC.ret (ibR (tkR ?_))))))
  clear hK16
  refine retV2 rfl (resV.cellA tbk hs40 2 rfl rfl rfl rfl) (resV.cellA tbk hs40 1 rfl rfl rfl rfl) ?_
  have hv : vpCsi p.dat b = (vpDigit p.dat (b - 48), act0) := by unfold vpCsi; rw [if_neg hc1, if_pos hc2]
  refine ⟨r35, _, ⟨0, 0, false, ⟨none, 0, 0, []⟩⟩, _, rfl, (St.drop ((hs40.fr ([] : Hp)).fr L1_36) (List.Sublist.append_left (List.sublist_append_left ([] : Hp) _) L1_36)), ?_, ?_, ?_, ?_⟩
  · exact ho37
  · exact (OwnF.nil _ _)
  · rw [hv]; first | exact hd38 | rfl
  · rw [hv]; first | exact rfl | rfl
 have hc2 : ¬ (48 ≤ b ∧ b ≤ 57) := by first | omega | (simp at qh33; omega)
 refine WC.r1 hs32 [] rfl (WC.cD rfl (fun qh42 => ?_) (fun qh42 => ?_))
 ·have hc3 : b = 59 := by first | omega | (simp at qh42; omega)
  refine WC.sr (WL.r 1 hs32 [3] rfl (WL.cl Tryd.call66 rfl (k29_ p _ (okVpR.st0 f_p hs32) ?_ ?_) ?_))
  iterate 2 first | assumption | rfl | omega | (simp; omega)
  rintro _ whs43 ⟨r44, L1_45, rfl, hs43, ho46, hd47⟩
  replace hs43 := hs32.callF hs43
  refine ⟨_, rfl, ?_⟩
  replace hs43 := St.back [_, _, _, _] hs43
  refine WL.val rfl rfl rfl (Run.build rfl rfl rfl rfl (built_33)) (WL.st tbk hs43 2 rfl rfl (fun _ hs48 => WL.st tbk hs48 1 rfl rfl (fun _ hs49 => WL.nil (WC.ret (ibR (tkR ?_))))))
  clear hK16
  refine retV2 rfl (resV.cellA tbk hs49 2 rfl rfl rfl rfl) (resV.cellA tbk hs49 1 rfl rfl rfl rfl) ?_
  have hv : vpCsi p.dat b = (vpNext p.dat, act0) := by unfold vpCsi; rw [if_neg hc1, if_neg hc2, if_pos hc3]
  refine ⟨r44, _, ⟨0, 0, false, ⟨none, 0, 0, []⟩⟩, _, rfl, (St.drop ((hs49.fr ([] : Hp)).fr L1_45) (List.Sublist.append_left (List.sublist_append_left ([] : Hp) _) L1_45)), ?_, ?_, ?_, ?_⟩
  · exact ho46
  · exact (OwnF.nil _ _)
  · rw [hv]; first | exact hd47 | rfl
  · rw [hv]; first | exact rfl | rfl
 have hc3 : ¬ (b = 59) := by first | omega | (simp at qh42; omega)
 refine WC.sr (WL.r 1 hs32 [] rfl (WL.cl Tryd.call23 rfl (k0_ _ _ _ _) ?_))
 rintro _ whs51 ⟨rfl, hs51⟩
 replace hs51 := hs32.call0 hs51
 refine ⟨_, rfl, WL.r 1 hs51 [] rfl (WL.nil (WC.cq rfl (fun h52 qh52 => ?_) (fun h52 qh52 => ?_)))⟩
 ·have hc4 : 64 ≤ b ∧ b ≤ 126 := by first | omega | (simp at qh52; omega)
  refine WC.seq (fun K53 hK53 => WC.rH ((hs51.fb b6).d1.fb b4).d1 hs51 (fun _ hs54 => ?_))
  refine WH.take 0 rfl (by kernel_rfl) rfl rfl rfl ((hs54.fb b6).d1.fb b4).d1 (fun w_ hs_ => (Run.build rfl rfl rfl rfl (built_26))) ?_
  refine WH.rn [1, 2, 3, 4, 5] ((hs54.fb b6).d1.fb b4).d1 [1, 0] rfl rfl ?_
  refine WH.take 6 rfl (by kernel_rfl) rfl rfl rfl ((hs54.fb b6).d1.fb b4).d1 (fun w_ hs_ => (Run.build rfl rfl rfl rfl (built_33_0_1_2_3 _ _ _ _ _ _))) ?_
  refine WH.o1 7 rfl (WL.st tbk hs54 2 rfl rfl (fun _ hs55 => WL.nil ⟨((hs55.fb b6).d1.fb b4).d1, WH.o1 8 rfl (WL.st tbk hs55 1 rfl rfl (fun _ hs56 => WL.nil ⟨((hs56.fb b6).d1.fb b4).d1, WH.dn (hK53 _ _ ?_)⟩))⟩))
  refine WC.ret (ibR (tkR ?_))
  clear hK16
  refine retV2 rfl (resV.cellA tbk hs56 2 rfl rfl rfl rfl) (resV.cellA tbk hs56 1 rfl rfl rfl rfl) ?_
  have hv : vpCsi p.dat b = (vp0, ⟨4, b, p.dat.Mark, p.dat.Args⟩) := by unfold vpCsi; rw [if_neg hc1, if_neg hc2, if_neg hc3, if_pos hc4]
  obtain ⟨L60, hs59, ho61⟩ := ownVpR.fl hs56 (OwnF.nil _ _) (OwnF.nil _ _)
  have hs62 := ((((hs59.fb b2).fb b4).fb b6).fb b13)
  obtain ⟨L63, L64, hs67, ho65, ho66⟩ := ownVpR.op hs62 ho11
  have hs68 := ((((hs67.fb b2).fb b4).fb b6).fb b13)
  refine ⟨⟨0, false, ⟨none, 0, 0, []⟩, ⟨none, 0, 0, []⟩⟩, _, ⟨(4), b, p.Mark, SlD.of ho65⟩, _, rfl, (St.drop ((hs68.fr L63).fr L60) (List.Sublist.append_left (List.sublist_append_left L63 _) L60)), ?_, ?_, ?_, ?_⟩
  · exact (by exact ho61)
  · exact ho65
  · rw [hv]; rfl
  · rw [hv]; exact ActD.ext' rfl rfl rfl hxr
 have hc4 : ¬ (64 ≤ b ∧ b ≤ 126) := by first | omega | (simp at qh52; omega)
 refine WC.sr (WL.r 3 hs51 [] rfl (WL.pO tbk 2 Acts.nil hs51 [] rfl rfl rfl rfl (fun g_ => trivial) (WL.r 1 hs51 [] rfl (WL.nil (WC.cq rfl (fun h69 qh69 => ?_) (fun h69 qh69 => ?_))))))
 ·have hc5 : b < 32 ∨ b = 127 := by first | omega | (simp at qh69; omega)
  refine WC.sr (WL.r 2 hs51 [0] rfl ?_)
  refine WL.val rfl rfl rfl (Run.build rfl rfl rfl rfl (built_33_0_1 _ _)) (WL.st tbk hs51 2 rfl rfl (fun _ hs70 => WL.st tbk hs70 1 rfl rfl (fun _ hs71 => WL.nil (WC.ret (ibR (tkR ?_))))))
  clear hK16
  refine retV2 rfl (resV.cellA tbk hs71 2 rfl rfl rfl rfl) (resV.cellA tbk hs71 1 rfl rfl rfl rfl) ?_
  have hv : vpCsi p.dat b = (p.dat, ⟨2, b, false, []⟩) := by unfold vpCsi; rw [if_neg hc1, if_neg hc2, if_neg hc3, if_neg hc4, if_pos hc5]
  refine ⟨r9, _, ⟨(2), b, false, ⟨none, 0, 0, []⟩⟩, _, rfl, (St.drop ((hs71.fr ([] : Hp)).fr L1_10) (List.Sublist.append_left (List.sublist_append_left ([] : Hp) _) L1_10)), ?_, ?_, ?_, ?_⟩
  · exact ho11
  · exact (OwnF.nil _ _)
  · rw [hv]; exact hd12
  · rw [hv]; first | exact rfl | rfl
 have hc5 : ¬ (b < 32 ∨ b = 127) := by first | omega | (simp at qh69; omega)
 refine WC.skip (hK16 _ _ (WC.sr (WL.r 1 hs51 [] rfl (WL.st tbk hs51 0 rfl rfl (fun _ hs73 => WL.nil (WC.sr (WL.r 1 hs73 [0] rfl ?_)))))))
 refine WL.val rfl rfl rfl (Run.build rfl rfl rfl rfl (built_33)) (WL.st tbk hs73 2 rfl rfl (fun _ hs74 => WL.st tbk hs74 1 rfl rfl (fun _ hs75 => WL.nil (WC.ret (retV2 rfl (resV.cellA tbk hs75 2 rfl rfl rfl rfl) (resV.cellA tbk hs75 1 rfl rfl rfl rfl) ?_)))))
 have hv : vpCsi p.dat b = ({ p.dat with State := 3 }, act0) := by unfold vpCsi; rw [if_neg hc1, if_neg hc2, if_neg hc3, if_neg hc4, if_neg hc5]
 obtain ⟨L76, L77, hs80, ho78, ho79⟩ := ownVpR.op hs75 ho11
 have hs81 := ((((hs80.fb b2).fb b4).fb b6).fb b13)
 obtain ⟨L83, hs82, ho84⟩ := ownVpR.fl hs81 ho78 ho79
 have hs85 := ((((hs82.fb b2).fb b4).fb b6).fb b13)
 refine ⟨⟨(3), r9.Mark, SlD.of ho78, SlD.of ho79⟩, _, ⟨0, 0, false, ⟨none, 0, 0, []⟩⟩, _, rfl, (St.drop ((hs85.fr ([] : Hp)).fr L83) (List.Sublist.append_left (List.sublist_append_left ([] : Hp) _) L83)), ?_, ?_, ?_, ?_⟩
 · exact (by exact ho84)
 · exact (OwnF.nil _ _)
 · rw [hv, ← hd12]; rfl
 · rw [hv]; first | exact rfl | rfl
theorem k31_ (p : VpR) (b : Int) (w : World) (f_p : okVpR 549755813888 w p) (hsm : smVp 1048576 p.dat) (hok : vpOk p.dat = true) (hb : 0 ≤ b ∧ b ≤ 255) :
    Calls Tryd.prog 36 #[.agg #[i64 p.State, .bool p.Mark, .slice p.Args.A p.Args.n p.Args.c, .slice p.Part.A p.Part.n p.Part.c], i64 b] w fun e w' => ∃ r0 L0 r1 L1, e = .returned (.tuple #[.agg #[i64 r0.State, .bool r0.Mark, .slice r0.Args.A r0.Args.n r0.Args.c, .slice r0.Part.A r0.Part.n r0.Part.c], .agg #[i64 r1.Kind, i64 r1.R, .bool r1.Mark, .slice r1.Args.A r1.Args.n r1.Args.c]]) ∧ St w [] (L0 ++ L1) w' ∧ ownVpR r0 L0 ∧ ownActR r1 L1 ∧ r0.dat = (vpStep p.dat b).1 ∧ r1.dat = (vpStep p.dat b).2 := by
 have nb_p_Args := f_p.Args_n
 have nl_p_Args := f_p.Args.len
 have nb_p_Part := f_p.Part_n
 have nl_p_Part := f_p.Part.len
 have hsB : smVp 549755813888 p.dat := ⟨Nat.le_trans hsm.1 (by decide), Nat.le_trans hsm.2 (by decide)⟩
 have hsa : p.Args.xs.length ≤ 1048576 := hsm.1
 have hsp : p.Part.xs.length ≤ 1048576 := hsm.2
 refine enter 58 Tryd.func36 rfl Tryd.ntmps36 rfl rfl ?_
 have hs1 := St.init w
 refine WC.sr (WL.bx hs1 rfl (fun b2 _ hs3 => WL.al hs3 Tryd.zeroValue26 rfl rfl (fun b4 _ hs5 => WL.al hs5 Tryd.zeroValue33 rfl rfl (fun b6 _ hs7 => WL.nil (WC.seq (fun K8 hK8 => WC.block (WC.r1 hs7 [] rfl ?_)))))))
 refine WC.cD rfl (fun qh9 => ?_) (fun qh9 => ?_)
 ·have k1 : b = 27 := by first | exact qh9 | omega | (simp at qh9; omega)
  refine WC.sr ?_
  refine WL.val rfl rfl rfl (Run.build rfl rfl rfl rfl (built_26_0 _)) ?_
  refine WL.val rfl rfl rfl (Run.build rfl rfl rfl rfl (built_33)) (WL.st tbk hs7 1 rfl rfl (fun _ hs10 => WL.st tbk hs10 0 rfl rfl (fun _ hs11 => WL.nil (WC.ret (ibR (tkR ?_))))))
  clear hK8
  refine retV2 rfl (resV.cellA tbk hs11 1 rfl rfl rfl rfl) (resV.cellA tbk hs11 0 rfl rfl rfl rfl) ?_
  have hv : vpStep p.dat b = (⟨1, false, [], []⟩, act0) := by unfold vpStep; rw [if_pos k1]
  obtain ⟨L15, hs14, ho16⟩ := ownVpR.fl hs11 (OwnF.nil _ _) (OwnF.nil _ _)
  have hs17 := (((hs14.fb b2).fb b4).fb b6)
  refine ⟨⟨(1), false, ⟨none, 0, 0, []⟩, ⟨none, 0, 0, []⟩⟩, _, ⟨0, 0, false, ⟨none, 0, 0, []⟩⟩, _, rfl, (St.drop ((hs17.fr ([] : Hp)).fr L15) (List.Sublist.append_left (List.sublist_append_left ([] : Hp) _) L15)), ?_, ?_, ?_, ?_⟩
  · exact (by exact ho16)
  · exact (OwnF.nil _ _)
  · rw [hv]; first | exact rfl | rfl
  · rw [hv]; first | exact rfl | rfl
 have k1 : ¬ (b = 27) := by first | exact qh9 | omega | (simp at qh9; omega)
 refine WC.sr (WL.r 3 hs7 [] rfl (WL.pO tbk 2 Acts.nil hs7 [] rfl rfl rfl rfl (fun g_ => trivial) (WL.r 1 hs7 [] rfl (WL.nil (WC.cq rfl (fun h19 qh19 => ?_) (fun h19 qh19 => ?_))))))
 ·have k2 : b = 24 ∨ b = 26 := by first | exact qh19 | omega | (simp at qh19; omega)
  refine WC.sr ?_
  refine WL.val rfl rfl rfl (Run.build rfl rfl rfl rfl (built_26)) ?_
  refine WL.val rfl rfl rfl (Run.build rfl rfl rfl rfl (built_33)) (WL.st tbk hs7 1 rfl rfl (fun _ hs20 => WL.st tbk hs20 0 rfl rfl (fun _ hs21 => WL.nil (WC.ret (ibR (tkR ?_))))))
  clear hK8
  refine retV2 rfl (resV.cellA tbk hs21 1 rfl rfl rfl rfl) (resV.cellA tbk hs21 0 rfl rfl rfl rfl) ?_
  have hv : vpStep p.dat b = (vp0, act0) := by unfold vpStep; rw [if_neg k1, if_pos k2]
  obtain ⟨L25, hs24, ho26⟩ := ownVpR.fl hs21 (OwnF.nil _ _) (OwnF.nil _ _)
  have hs27 := (((hs24.fb b2).fb b4).fb b6)
  refine ⟨⟨0, false, ⟨none, 0, 0, []⟩, ⟨none, 0, 0, []⟩⟩, _, ⟨0, 0, false, ⟨none, 0, 0, []⟩⟩, _, rfl, (St.drop ((hs27.fr ([] : Hp)).fr L25) (List.Sublist.append_left (List.sublist_append_left ([] : Hp) _) L25)), ?_, ?_, ?_, ?_⟩
  · exact (by exact ho26)
  · exact (OwnF.nil _ _)
  · rw [hv]; first | exact rfl | rfl
  · rw [hv]; first | exact rfl | rfl
 have k2 : ¬ (b = 24 ∨ b = 26) := by first | exact qh19 | omega | (simp at qh19; omega)
 refine WC.skip (hK8 _ _ (WC.seq (fun K29 hK29 => WC.r1 hs7 [2] rfl (WC.block (WC.r1 hs7 [] rfl ?_)))))
 refine WC.cD rfl (fun qh30 => ?_) (fun qh30 => ?_)
 ·have k3 : p.dat.State = 0 := by show p.State = 0; first | exact qh30 | omega | (simp at qh30; omega)
  refine WC.sr (WL.r 2 hs7 [2] rfl (WL.cl Tryd.call54 rfl (k27_ p _ _ (okVpR.st0 f_p hs7) ?_) ?_))
  · first | assumption | rfl | omega | (simp; omega)
  rintro _ whs31 ⟨r0_32, L0_33, r1_34, L1_35, rfl, hs31, ho36, ho37, hd0_38, hd1_39⟩
  replace hs31 := hs7.callF hs31
  refine ⟨_, rfl, ?_⟩
  replace hs31 := St.assoc hs31
  replace hs31 := St.back2 [_, _, _] hs31
  refine WL.r 2 hs31 [] rfl (WL.st tbk hs31 1 rfl rfl (fun _ hs40 => WL.st tbk hs40 0 rfl rfl (fun _ hs41 => WL.nil (WC.ret (ibR (tkR ?_))))))
  clear hK29
  refine retV2 rfl (resV.cellA tbk hs41 1 rfl rfl rfl rfl) (resV.cellA tbk hs41 0 rfl rfl rfl rfl) ?_
  have hv : vpStep p.dat b = vpPlain p.dat.Part b := by unfold vpStep; rw [if_neg k1, if_neg k2, if_pos k3]
  refine ⟨r0_32, _, r1_34, _, rfl, (St.drop ((hs41.fr L1_35).fr L0_33) (List.Sublist.append_left (List.sublist_append_left L1_35 _) L0_33)), ?_, ?_, ?_, ?_⟩
  · exact ho36
  · exact ho37
  · rw [hv]; first | exact hd0_38 | rfl
  · rw [hv]; first | exact hd1_39 | rfl
 have k3 : ¬ (p.dat.State = 0) := by show ¬ (p.State = 0); first | exact qh30 | omega | (simp at qh30; omega)
 refine WC.r1 hs7 [] rfl (WC.cD rfl (fun qh42 => ?_) (fun qh42 => ?_))
 ·have k4 : p.dat.State = 1 := by show p.State = 1; first | exact qh42 | omega | (simp at qh42; omega)
  refine WC.seq (fun K43 hK43 => WC.block (WC.r1 hs7 [] rfl ?_))
  refine WC.cD rfl (fun qh44 => ?_) (fun qh44 => ?_)
  ·have k5 : b = 91 := by first | exact qh44 | omega | (simp at qh44; omega)
   refine WC.sr ?_
   refine WL.val rfl rfl rfl (Run.build rfl rfl rfl rfl (built_26_0 _)) ?_
   refine WL.val rfl rfl rfl (Run.build rfl rfl rfl rfl (built_33)) (WL.st tbk hs7 1 rfl rfl (fun _ hs45 => WL.st tbk hs45 0 rfl rfl (fun _ hs46 => WL.nil (WC.ret (ibR (tkR (ibR (tkR ?_))))))))
   clear hK43 hK29
   refine retV2 rfl (resV.cellA tbk hs46 1 rfl rfl rfl rfl) (resV.cellA tbk hs46 0 rfl rfl rfl rfl) ?_
   have hv : vpStep p.dat b = (⟨2, false, [], []⟩, act0) := by unfold vpStep; rw [if_neg k1, if_neg k2, if_neg k3, if_pos k4, if_pos k5]
   obtain ⟨L50, hs49, ho51⟩ := ownVpR.fl hs46 (OwnF.nil _ _) (OwnF.nil _ _)
   have hs52 := (((hs49.fb b2).fb b4).fb b6)
   refine ⟨⟨(2), false, ⟨none, 0, 0, []⟩, ⟨none, 0, 0, []⟩⟩, _, ⟨0, 0, false, ⟨none, 0, 0, []⟩⟩, _, rfl, (St.drop ((hs52.fr ([] : Hp)).fr L50) (List.Sublist.append_left (List.sublist_append_left ([] : Hp) _) L50)), ?_, ?_, ?_, ?_⟩
   · exact (by exact ho51)
   · exact (OwnF.nil _ _)
   · rw [hv]; first | exact rfl | rfl
   · rw [hv]; first | exact rfl | rfl
  have k5 : ¬ (b = 91) := by first | exact qh44 | omega | (simp at qh44; omega)
  refine WC.sr (WL.r 1 hs7 [] rfl (WL.cl Tryd.call23 rfl (k0_ _ _ _ _) ?_))
  rintro _ whs54 ⟨rfl, hs54⟩
  replace hs54 := hs7.call0 hs54
  refine ⟨_, rfl, WL.r 1 hs54 [] rfl (WL.nil (WC.cq rfl (fun h55 qh55 => ?_) (fun h55 qh55 => ?_)))⟩
  ·have k6 : 48 ≤ b ∧ b ≤ 126 := by first | exact qh55 | omega | (simp at qh55; omega)
   refine WC.sr ?_
   refine WL.val rfl rfl rfl (Run.build rfl rfl rfl rfl (built_26)) (WL.r 1 hs54 [] rfl ?_)
   refine WL.val rfl rfl rfl (Run.build rfl rfl rfl rfl (built_33_0_1 _ _)) (WL.st tbk hs54 1 rfl rfl (fun _ hs56 => WL.st tbk hs56 0 rfl rfl (fun _ hs57 => WL.nil (WC.ret (ibR (tkR (ibR (tkR ?_))))))))
   clear hK43 hK29
   refine retV2 rfl (resV.cellA tbk hs57 1 rfl rfl rfl rfl) (resV.cellA tbk hs57 0 rfl rfl rfl rfl) ?_
   have hv : vpStep p.dat b = (vp0, ⟨3, b, false, []⟩) := by unfold vpStep; rw [if_neg k1, if_neg k2, if_neg k3, if_pos k4, if_neg k5, if_pos k6]
   obtain ⟨L61, hs60, ho62⟩ := ownVpR.fl hs57 (OwnF.nil _ _) (OwnF.nil _ _)
   have hs63 := (((hs60.fb b2).fb b4).fb b6)
   refine ⟨⟨0, false, ⟨none, 0, 0, []⟩, ⟨none, 0, 0, []⟩⟩, _, ⟨(3), b, false, ⟨none, 0, 0, []⟩⟩, _, rfl, (St.drop ((hs63.fr ([] : Hp)).fr L61) (List.Sublist.append_left (List.sublist_append_left ([] : Hp) _) L61)), ?_, ?_, ?_, ?_⟩
   · exact (by exact ho62)
   · exact (OwnF.nil _ _)
   · rw [hv]; first | exact rfl | rfl
   · rw [hv]; first | exact rfl | rfl
  have k6 : ¬ (48 ≤ b ∧ b ≤ 126) := by first | exact qh55 | omega | (simp at qh55; omega)
  refine WC.skip (hK43 _ _ (WC.sr ?_))
  refine WL.val rfl rfl rfl (Run.build rfl rfl rfl rfl (built_26)) ?_
  refine WL.val rfl rfl rfl (Run.build rfl rfl rfl rfl (built_33)) (WL.st tbk hs54 1 rfl rfl (fun _ hs65 => WL.st tbk hs65 0 rfl rfl (fun _ hs66 => WL.nil (WC.ret (ibR (tkR ?_))))))
  clear hK29
  refine retV2 rfl (resV.cellA tbk hs66 1 rfl rfl rfl rfl) (resV.cellA tbk hs66 0 rfl rfl rfl rfl) ?_
  have hv : vpStep p.dat b = (vp0, act0) := by unfold vpStep; rw [if_neg k1, if_neg k2, if_neg k3, if_pos k4, if_neg k5, if_neg k6]
  obtain ⟨L70, hs69, ho71⟩ := ownVpR.fl hs66 (OwnF.nil _ _) (OwnF.nil _ _)
  have hs72 := (((hs69.fb b2).fb b4).fb b6)
  refine ⟨⟨0, false, ⟨none, 0, 0, []⟩, ⟨none, 0, 0, []⟩⟩, _, ⟨0, 0, false, ⟨none, 0, 0, []⟩⟩, _, rfl, (St.drop ((hs72.fr ([] : Hp)).fr L70) (List.Sublist.append_left (List.sublist_append_left ([] : Hp) _) L70)), ?_, ?_, ?_, ?_⟩
  · exact (by exact ho71)
  · exact (OwnF.nil _ _)
  · rw [hv]; first | exact rfl | rfl
  · rw [hv]; first | exact rfl | rfl
 have k4 : ¬ (p.dat.State = 1) := by show ¬ (p.State = 1); first | exact qh42 | omega | (simp at qh42; omega)
 refine WC.r1 hs7 [] rfl (WC.cD rfl (fun qh74 => ?_) (fun qh74 => ?_))
 ·have k7 : p.dat.State = 2 := by show p.State = 2; first | exact qh74 | omega | (simp at qh74; omega)
  have hoa : areArgs p.dat.Args = true := by have h_ := hok; rw [vpOk_csi (.inl k7), Bool.and_eq_true] at h_; exact h_.1
  refine WC.sr (WL.r 2 hs7 [2] rfl (WL.cl Tryd.call55 rfl (k30_ p _ _ (okVpR.st0 f_p hs7) ?_ ?_ ?_) ?_))
  iterate 3 first | assumption | rfl | omega | (simp; omega)
  rintro _ whs75 ⟨r0_76, L0_77, r1_78, L1_79, rfl, hs75, ho80, ho81, hd0_82, hd1_83⟩
  replace hs75 := hs7.callF hs75
  refine ⟨_, rfl, ?_⟩
  replace hs75 := St.assoc hs75
  replace hs75 := St.back2 [_, _, _] hs75
  refine WL.r 2 hs75 [] rfl (WL.st tbk hs75 1 rfl rfl (fun _ hs84 => WL.st tbk hs84 0 rfl rfl (fun _ hs85 => WL.nil (WC.ret (ibR (tkR ?_))))))
  clear hK29
  refine retV2 rfl (resV.cellA tbk hs85 1 rfl rfl rfl rfl) (resV.cellA tbk hs85 0 rfl rfl rfl rfl) ?_
  have hv : vpStep p.dat b = vpCsi p.dat b := by unfold vpStep; rw [if_neg k1, if_neg k2, if_neg k3, if_neg k4, if_pos k7]
  refine ⟨r0_76, _, r1_78, _, rfl, (St.drop ((hs85.fr L1_79).fr L0_77) (List.Sublist.append_left (List.sublist_append_left L1_79 _) L0_77)), ?_, ?_, ?_, ?_⟩
  · exact ho80
  · exact ho81
  · rw [hv]; first | exact hd0_82 | rfl
  · rw [hv]; first | exact hd1_83 | rfl
 have k7 : ¬ (p.dat.State = 2) := by show ¬ (p.State = 2); first | exact qh74 | omega | (simp at qh74; omega)
 refine WC.skip (hK29 _ _ (WC.seq (fun K86 hK86 => WC.sr (WL.r 1 hs7 [] rfl (WL.cl Tryd.call23 rfl (k0_ _ _ _ _) ?_)))))
 rintro _ whs87 ⟨rfl, hs87⟩
 replace hs87 := hs7.call0 hs87
 refine ⟨_, rfl, WL.nil (WC.cq rfl (fun h88 qh88 => ?_) (fun h88 qh88 => ?_))⟩
 ·have k8 : 64 ≤ b ∧ b ≤ 126 := by first | exact qh88 | omega | (simp at qh88; omega)
  refine WC.sr ?_
  refine WL.val rfl rfl rfl (Run.build rfl rfl rfl rfl (built_26)) ?_
  refine WL.val rfl rfl rfl (Run.build rfl rfl rfl rfl (built_33)) (WL.st tbk hs87 1 rfl rfl (fun _ hs89 => WL.st tbk hs89 0 rfl rfl (fun _ hs90 => WL.nil (WC.ret (tkR ?_)))))
  clear hK86
  refine retV2 rfl (resV.cellA tbk hs90 1 rfl rfl rfl rfl) (resV.cellA tbk hs90 0 rfl rfl rfl rfl) ?_
  have hv : vpStep p.dat b = (vp0, act0) := by unfold vpStep; rw [if_neg k1, if_neg k2, if_neg k3, if_neg k4, if_neg k7, if_pos k8]
  obtain ⟨L94, hs93, ho95⟩ := ownVpR.fl hs90 (OwnF.nil _ _) (OwnF.nil _ _)
  have hs96 := (((hs93.fb b2).fb b4).fb b6)
  refine ⟨⟨0, false, ⟨none, 0, 0, []⟩, ⟨none, 0, 0, []⟩⟩, _, ⟨0, 0, false, ⟨none, 0, 0, []⟩⟩, _, rfl, (St.drop ((hs96.fr ([] : Hp)).fr L94) (List.Sublist.append_left (List.sublist_append_left ([] : Hp) _) L94)), ?_, ?_, ?_, ?_⟩
  · exact (by exact ho95)
  · exact (OwnF.nil _ _)
  · rw [hv]; first | exact rfl | rfl
  · rw [hv]; first | exact rfl | rfl
 have k8 : ¬ (64 ≤ b ∧ b ≤ 126) := by first | exact qh88 | omega | (simp at qh88; omega)
 refine WC.skip (hK86 _ _ (WC.sr (WL.r 1 hs87 [2] rfl ?_)))
 refine WL.cl Tryd.call35 rfl (k24_ p _ (okVpR.st0 f_p hs87) ?_) ?_
 · first | assumption | rfl | omega | (simp; omega)
 rintro _ whs98 ⟨r99, L1_100, rfl, hs98, ho101, hd102⟩
 replace hs98 := hs87.callF hs98
 refine ⟨_, rfl, ?_⟩
 replace hs98 := St.back [_, _, _] hs98
 refine WL.val rfl rfl rfl (Run.build rfl rfl rfl rfl (built_33)) (WL.st tbk hs98 1 rfl rfl (fun _ hs103 => WL.st tbk hs103 0 rfl rfl (fun _ hs104 => WL.nil (WC.ret (retV2 rfl (resV.cellA tbk hs104 1 rfl rfl rfl rfl) (resV.cellA tbk hs104 0 rfl rfl rfl rfl) ?_)))))
 have hv : vpStep p.dat b = (p.dat, act0) := by unfold vpStep; rw [if_neg k1, if_neg k2, if_neg k3, if_neg k4, if_neg k7, if_neg k8]
 refine ⟨r99, _, ⟨0, 0, false, ⟨none, 0, 0, []⟩⟩, _, rfl, (St.drop ((hs104.fr ([] : Hp)).fr L1_100) (List.Sublist.append_left (List.sublist_append_left ([] : Hp) _) L1_100)), ?_, ?_, ?_, ?_⟩
 · exact ho101
 · exact (OwnF.nil _ _)
 · rw [hv]; first | exact hd102 | rfl
 · rw [hv]; first | exact rfl | rfl
end Go.Proofs.YtpbflopkkfihaaaDoor
