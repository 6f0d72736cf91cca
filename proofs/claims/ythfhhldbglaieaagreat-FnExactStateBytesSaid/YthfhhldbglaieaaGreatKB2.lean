/-
  What the proof stands on, part 2.
-/
import Derived.Test.YthfhhldbglaieaaGreatKB1
namespace Go.Proofs.YthfhhldbglaieaaGreat
open Go Go.RowKit
set_option linter.unusedVariables false
set_option linter.unusedSimpArgs false
class TbOk (P : Program) (tb : outParam TT) : Prop where
 ok : tb.Ok P
class Mx (P : Program) : Prop where
 ok : P.follows .mixedOrders = true
section
variable {P : Program} {tb : TT} {w0 w : World} {T : List Nat} {L : Hp} {n : Nat} {ol : List Oper} {act : List (Nat × Bool)} {K : Fr → World → Prop} {KQ : Fr → Prop} {C : World → Prop}
theorem WL.r [t : TbOk P tb] (m : Nat) (hst : St w0 T L w) (h : List Nat) {l l' : List Oper} {f f' : Fr} {S : Prop} (hr : runs tb n ol L [] m l f h True = some (l', f', S)) (k : WL P n ol l' K f' w) (hS : S := by repeat (first | exact trivial | refine ⟨by first | exact rfl | omega | exact u8_in _ | (constructor <;> omega), ?_⟩)) : WL P n ol l K f w := WL.run t.ok m hst h hr hS k
theorem WQ.r [t : TbOk P tb] (m : Nat) (h : List Nat) {l l' : List Oper} {f f' : Fr} {S : Prop} (hr : runs tb n ol L [] m l f h True = some (l', f', S)) (k : WQ P n ol l' (fun w' => St w0 T L w') KQ f') (hS : S := by repeat (first | exact trivial | refine ⟨by first | exact rfl | omega | exact u8_in _ | (constructor <;> omega), ?_⟩)) : WQ P n ol l (fun w' => St w0 T L w') KQ f := WQ.run t.ok m h hr hS k
theorem WC.r1 [t : TbOk P tb] {id : Nat} {l : List Oper} {y : Code} {Q : Kont} {f f' : Fr} {S : Prop} (hst : St w0 T L w) (h : List Nat) (hr : runs tb n l L [] l.length l f h True = some ([], f', S)) (k : WC P n y Q f' w) (hS : S := by repeat (first | exact trivial | refine ⟨by first | exact rfl | omega | exact u8_in _ | (constructor <;> omega), ?_⟩)) : WC P n (.seq (.region id l.toArray false) y) Q f w := WC.rr t.ok hst h hr hS k
theorem WC.q1 [t : TbOk P tb] [m : Mx P] {id : Nat} {l : List Oper} {y : Code} {Q : Kont} {f f' : Fr} {S : Prop} (hst : St w0 T L w) (h : List Nat) (hr : runs tb n l L [] l.length l f h True = some ([], f', S)) (k : ∀ w', St w0 T L w' → WC P n y Q f' w') (hl : Region.lexB .any l.toArray = true := by kernel_rfl) (hS : S := by repeat (first | exact trivial | refine ⟨by first | exact rfl | omega | exact u8_in _ | (constructor <;> omega), ?_⟩)) : WC P n (.seq (.region id l.toArray true) y) Q f w := WC.rq t.ok hst m.ok hl h hr hS k
theorem WC.sq1 [m : Mx P] {id : Nat} {l : List Oper} {y : Code} {Q : Kont} {f : Fr} (hst : St w0 T L w) (h : WQ P n l l (fun w' => St w0 T L w') (fun f' => ∀ w', St w0 T L w' → WC P n y Q f' w') f) (hl : Region.lexB .any l.toArray = true := by kernel_rfl) : WC P n (.seq (.region id l.toArray true) y) Q f w := WC.sq hst m.ok hl h
end
def hruns (tb : TT) (n : Nat) (ol : List Oper) (L : Hp) (act : List (Nat × Bool)) : List Nat → Fr → List Nat → Prop → Option (Fr × Prop)
 | [], f, _, S => some (f, S)
 | i :: is, f, h, S => match nthO ol i with
  | some o => (match o.dst with
   | some d => bif wantA ol act o f && Nat.blt d n && frB act f d then sv tb L o.op f h S fun v h' S' => hruns tb n ol L act is ((d, v) :: f) h' S' else none
   | none => none)
  | none => none
def setBs : List Bool → List Nat → List Bool
 | l, [] => l
 | l, i :: r => setBs (setB l i) r
def fuelB : Nat → List Nat → Option Nat
 | m, [] => some m
 | m + 1, _ :: r => fuelB m r
 | 0, _ :: _ => none
def looks (ol : List Oper) (i : Nat) : Bool := match nthO ol i with
 | some o => (match o.op with
  | .load _ _ => true
  | _ => false)
 | none => true
def takesH (ol : List Oper) : List Bool → List Nat → Bool
 | _, [] => true
 | l, i :: r => canTake ol l i && takesH ol (setB l i) r
def takesG (ol : List Oper) (k : Nat) : List Bool → List Nat → Bool
 | _, [] => true
 | l, i :: r => (takesT ol l k i || (canTake ol l i && (!Nat.beq i k && !looks ol i))) && takesG ol k (setB l i) r
theorem sv_look {β : Type} {tb : TT} {L : Hp} {op : Op} {f : Fr} {h : List Nat} {S : Prop} {k : Value → List Nat → Prop → Option β} (hn : ∀ t x, op ≠ .load t x) : sv tb L op f h S k = sv tb [] op f h S k := by
 cases op <;> first | rfl | exact absurd rfl (hn _ _)
theorem looks_no {ol : List Oper} {i : Nat} {o : Oper} (hi : nthO ol i = some o) (h : looks ol i = false) (t : TypeId) (x : Operand) : o.op ≠ .load t x := fun e => by
 unfold looks at h
 rw [hi] at h
 simp only [e] at h
 cases h
section
variable {P : Program} {tb : TT} {w0 w : World} {T : List Nat} {L : Hp} {n : Nat} {ol : List Oper} {act : List (Nat × Bool)} {K : Fr → World → Prop} {S0 : World → Prop} {k : Nat}
theorem hruns_ok (htb : tb.Ok P) : ∀ {is : List Nat} {listed : List Bool} {F fuel : Nat} {f f' : Fr} {h : List Nat} {S S' : Prop}, Acts ol act f → hruns tb n ol L act is f h S = some (f', S') → fuelB F is = some fuel → S' →
  S ∧ (takesH ol listed is = true → ∀ w, St w0 T L w → WH P n ol (fun w' => St w0 T L w') fuel (setBs listed is) K f' w → WH P n ol (fun w' => St w0 T L w') F listed K f w)
   ∧ (takesG ol k listed is = true → ∀ w, St w0 T L w → WG P n ol k (fun w' => St w0 T L w') S0 fuel (setBs listed is) K f' w → WG P n ol k (fun w' => St w0 T L w') S0 F listed K f w)
 | [], listed, F, fuel, f, f', h, S, S', ha, hr, hf, hS => by
  simp only [hruns, Option.some.injEq, Prod.mk.injEq] at hr
  obtain ⟨rfl, rfl⟩ := hr
  have : F = fuel := by cases F <;> simpa [fuelB] using hf
  subst this
  exact ⟨hS, fun _ _ _ => id, fun _ _ _ => id⟩
 | i :: is, listed, 0, fuel, f, f', h, S, S', ha, hr, hf, hS => by cases hf
 | i :: is, listed, F + 1, fuel, f, f', h, S, S', ha, hr, hf, hS => by
  unfold hruns at hr
  split at hr
  ·rename_i o hi
   split at hr
   ·rename_i d hd
    cases hc : (wantA ol act o f && Nat.blt d n && frB act f d) with
    | false => rw [hc] at hr; cases hr
    | true =>
     rw [hc] at hr
     dsimp only [cond_true] at hr
     simp only [Bool.and_eq_true] at hc
     have hw := wantA_ok ha hc.1.1
     obtain ⟨v, h', S1, hk, hv⟩ := sv_ok htb hr
     obtain ⟨h1, h2, h3⟩ := hruns_ok (listed := setB listed i) htb (frB_ok ha hc.2) hk hf hS
     obtain ⟨h5, h6⟩ := hv h1
     have hy : ∀ w, St w0 T L w → Run P o f w (.value v) w := fun w hst => h6 w (fun p hp => (hst.own p hp).1) o rfl
     refine ⟨h5, fun ht w hst kk => ?_, fun ht w hst kk => ?_⟩
     ·simp only [takesH, Bool.and_eq_true] at ht
      exact WH.take i hi ht.1 hw hd hc.1.2 hst hy (h2 ht.2 w hst kk)
     ·simp only [takesG, Bool.and_eq_true, Bool.or_eq_true, Bool.not_eq_true'] at ht
      rcases ht.1 with ht1 | ⟨ht1, ht2, ht3⟩
      ·exact WG.tk i hi ht1 hw hd hc.1.2 hst hy (h3 ht.2 w hst kk)
      ·rw [sv_look (looks_no hi ht3)] at hr
       obtain ⟨v', h'', S2, hk', hv'⟩ := sv_ok htb hr
       obtain ⟨g1, g2, g3⟩ := hruns_ok (listed := setB listed i) htb (frB_ok ha hc.2) hk' hf hS
       obtain ⟨g5, g6⟩ := hv' g1
       exact WG.takeB i hi ht1 ht2 hw hd hc.1.2 hst (fun w => g6 w (fun p hp => by cases hp) o rfl) (g3 ht.2 w hst kk)
   ·cases hr
  ·cases hr
theorem WH.rn [t : TbOk P tb] (is : List Nat) (hst : St w0 T L w) (h : List Nat) {listed : List Bool} {F fuel : Nat} {f f' : Fr} {S : Prop} (hr : hruns tb n ol L [] is f h True = some (f', S)) (hf : fuelB F is = some fuel) (kk : WH P n ol (fun w' => St w0 T L w') fuel (setBs listed is) K f' w) (hb : takesH ol listed is = true := by kernel_rfl)
  (hS : S := by repeat (first | exact trivial | refine ⟨by first | exact rfl | omega | exact u8_in _ | (constructor <;> omega), ?_⟩)) : WH P n ol (fun w' => St w0 T L w') F listed K f w :=
 (hruns_ok (k := 0) (S0 := fun _ => True) t.ok Acts.nil hr hf hS).2.1 hb w hst kk
theorem WH.rnA [t : TbOk P tb] {f : Fr} (ha : Acts ol act f) (is : List Nat) (hst : St w0 T L w) (h : List Nat) {listed : List Bool} {F fuel : Nat} {f' : Fr} {S : Prop} (hr : hruns tb n ol L act is f h True = some (f', S)) (hf : fuelB F is = some fuel) (kk : WH P n ol (fun w' => St w0 T L w') fuel (setBs listed is) K f' w) (hb : takesH ol listed is = true := by kernel_rfl)
  (hS : S := by repeat (first | exact trivial | refine ⟨by first | exact rfl | omega | exact u8_in _ | (constructor <;> omega), ?_⟩)) : WH P n ol (fun w' => St w0 T L w') F listed K f w :=
 (hruns_ok (k := 0) (S0 := fun _ => True) t.ok ha hr hf hS).2.1 hb w hst kk
theorem WG.rn [t : TbOk P tb] (is : List Nat) (hst : St w0 T L w) (h : List Nat) {listed : List Bool} {F fuel : Nat} {f f' : Fr} {S : Prop} (hr : hruns tb n ol L [] is f h True = some (f', S)) (hf : fuelB F is = some fuel) (kk : WG P n ol k (fun w' => St w0 T L w') S0 fuel (setBs listed is) K f' w) (hb : takesG ol k listed is = true := by kernel_rfl)
  (hS : S := by repeat (first | exact trivial | refine ⟨by first | exact rfl | omega | exact u8_in _ | (constructor <;> omega), ?_⟩)) : WG P n ol k (fun w' => St w0 T L w') S0 F listed K f w :=
 (hruns_ok (k := k) (S0 := S0) t.ok Acts.nil hr hf hS).2.2 hb w hst kk
theorem WG.rnA [t : TbOk P tb] {f : Fr} (ha : Acts ol act f) (is : List Nat) (hst : St w0 T L w) (h : List Nat) {listed : List Bool} {F fuel : Nat} {f' : Fr} {S : Prop} (hr : hruns tb n ol L act is f h True = some (f', S)) (hf : fuelB F is = some fuel) (kk : WG P n ol k (fun w' => St w0 T L w') S0 fuel (setBs listed is) K f' w) (hb : takesG ol k listed is = true := by kernel_rfl)
  (hS : S := by repeat (first | exact trivial | refine ⟨by first | exact rfl | omega | exact u8_in _ | (constructor <;> omega), ?_⟩)) : WG P n ol k (fun w' => St w0 T L w') S0 F listed K f w :=
 (hruns_ok (k := k) (S0 := S0) t.ok ha hr hf hS).2.2 hb w hst kk
end
section
variable {P : Program} {n : Nat} {ol : List Oper} {o : Oper} {K : Fr → World → Prop} {f : Fr} {w : World} {S S1 : World → Prop} {fuel k : Nat} {listed : List Bool}
theorem WH.o1 (i : Nat) (hi : nthO ol i = some o) (h : WL P n ol [o] (fun f' w' => S w' ∧ WH P n ol S fuel (setB listed i) K f' w') f w) (hr : Region.ready .any ol.toArray listed.toArray = [i] := by kernel_rfl) : WH P n ol S (fuel + 1) listed K f w := WH.all [i] hr rfl (WHs.cons hi h WHs.nil)
theorem WG.o1 (i : Nat) (hi : nthO ol i = some o) (hn : Nat.beq i k = false) (h : WL P n ol [o] (fun f' w' => S1 w' ∧ WG P n ol k S1 S fuel (setB listed i) K f' w') f w) (hr : Region.ready .any ol.toArray listed.toArray = [i] := by kernel_rfl) : WG P n ol k S1 S (fuel + 1) listed K f w := WG.all [i] hr rfl (WGs.cons hi hn h WGs.nil)
theorem WH.dn (h : K f w) (hr : Region.ready .any ol.toArray listed.toArray = [] := by kernel_rfl) : WH P n ol S fuel listed K f w := WH.done hr h
theorem WL.n2 (h1 : S w) (h2 : WH P n ol S1 fuel listed K f w) : WL P n ol [] (fun f' w' => S w' ∧ WH P n ol S1 fuel listed K f' w') f w := WL.nil ⟨h1, h2⟩
end
section
variable {P : Program} {n : Nat} {w0 w : World} {T : List Nat} {L L0 L1 : Hp} {f : Fr}
theorem WC.rH [m : Mx P] {id : Nat} {l : List Oper} {Q : Kont} (h0 : St w0 T L0 w) (h1 : St w0 T L w) (h : ∀ w', St w0 T L w' → WH P n l (fun w' => St w0 T L0 w') l.length (List.replicate l.length false) (fun f w => Q .normal f w) f w') : WC P n (.region id l.toArray true) Q f w := WC.regionH2 _ _ m.ok h0.drew h1.drew h
end
class Fr1 (X L : Hp) (R : outParam Hp) : Prop where
 pf : (X ++ R).Perm L
theorem fr1_mid {X A R L : Hp} (h : (X ++ R).Perm L) : (X ++ (A ++ R)).Perm (A ++ L) := perm_front h
instance (priority := low) fr1End {X : Hp} : Fr1 X X [] := ⟨by rw [List.append_nil]⟩
instance fr1App {X L R A : Hp} [h : Fr1 X L R] : Fr1 X (A ++ L) (A ++ R) := ⟨fr1_mid h.pf⟩
instance fr1Cons {X L R : Hp} {p : Nat × Obj} [h : Fr1 X L R] : Fr1 X (p :: L) (p :: R) := ⟨fr1_mid (A := [p]) h.pf⟩
instance (priority := high) fr1Nil {L : Hp} : Fr1 [] L L := ⟨List.Perm.refl _⟩
instance (priority := high) fr1Here {X R : Hp} : Fr1 X (X ++ R) R := ⟨List.Perm.refl _⟩
instance fr1App' {X L R A : Hp} [h : Fr1 X L R] : Fr1 X (A.append L) (A ++ R) := ⟨fr1_mid h.pf⟩
instance (priority := high) fr1Here' {X R : Hp} : Fr1 X (X.append R) R := ⟨List.Perm.refl _⟩
class FrB (b : Nat) (L : Hp) (o : outParam Obj) (R : outParam Hp) : Prop where
 pf : ((b, o) :: R).Perm L
instance frbApp {b : Nat} {o : Obj} {L R A : Hp} [h : FrB b L o R] : FrB b (A ++ L) o (A ++ R) := ⟨fr1_mid (X := [(b, o)]) h.pf⟩
instance frbCons {b : Nat} {o : Obj} {L R : Hp} {p : Nat × Obj} [h : FrB b L o R] : FrB b (p :: L) o (p :: R) := ⟨fr1_mid (X := [(b, o)]) (A := [p]) h.pf⟩
instance frbApp' {b : Nat} {o : Obj} {L R A : Hp} [h : FrB b L o R] : FrB b (A.append L) o (A ++ R) := ⟨fr1_mid (X := [(b, o)]) h.pf⟩
instance frbIn {b : Nat} {o : Obj} {L R A : Hp} {p : Nat × Obj} [h : FrB b (A ++ L) o R] : FrB b ((p :: A) ++ L) o (p :: R) := ⟨fr1_mid (X := [(b, o)]) (A := [p]) h.pf⟩
instance frbIn' {b : Nat} {o : Obj} {L R A : Hp} {p : Nat × Obj} [h : FrB b (A.append L) o R] : FrB b (List.append (p :: A) L) o (p :: R) := ⟨fr1_mid (X := [(b, o)]) (A := [p]) h.pf⟩
instance (priority := high) frbHd {b : Nat} {o : Obj} {R A : Hp} : FrB b (((b, o) :: A) ++ R) o (A ++ R) := ⟨List.Perm.refl _⟩
instance (priority := high) frbHd' {b : Nat} {o : Obj} {R A : Hp} : FrB b (List.append ((b, o) :: A) R) o (A ++ R) := ⟨List.Perm.refl _⟩
instance (priority := high) frbOne' {b : Nat} {o : Obj} {R : Hp} : FrB b (List.append [(b, o)] R) o R := ⟨List.Perm.refl _⟩
instance (priority := high) frbOne {b : Nat} {o : Obj} {R : Hp} : FrB b ([(b, o)] ++ R) o R := ⟨List.Perm.refl _⟩
instance (priority := high) frbHere {b : Nat} {o : Obj} {R : Hp} : FrB b ((b, o) :: R) o R := ⟨List.Perm.refl _⟩
section
variable {w0 w : World} {T : List Nat} {L R A B C D R1 R2 R3 R4 : Hp} {o : Obj} {p q : Nat × Obj}
theorem St.fr (h : St w0 T L w) (X : Hp) [k : Fr1 X L R] : St w0 T (X ++ R) w := h.perm k.pf
theorem St.rm (h : St w0 T L w) (X : Hp) [k : Fr1 X L R] : St w0 T R w := (h.perm k.pf).drop (sR _)
theorem St.fb (h : St w0 T L w) (b : Nat) [k : FrB b L o R] : St w0 T ((b, o) :: R) w := h.perm k.pf
theorem St.ow (h : St w0 T L w) (X : Hp) [k : Fr1 X L R] : ∀ p, p ∈ X → w.heap[p.1]? = some p.2 := fun p hp => (h.own p (k.pf.mem_iff.1 (List.mem_append_left _ hp))).1
theorem St.d1 (h : St w0 T (p :: L) w) : St w0 T L w := h.drop (List.sublist_cons_self _ _)
end
class BoolP (b : Bool) (p q : outParam Prop) : Prop where
 t : b = true → p
 f : b = false → q
instance (priority := low) boolP0 {b : Bool} : BoolP b (b = true) (b = false) := ⟨id, id⟩
instance boolPD {p : Prop} [d : Decidable p] : BoolP (decide p) p (¬ p) := ⟨of_decide_eq_true, of_decide_eq_false⟩
instance boolPN {b : Bool} {p q : Prop} [h : BoolP b p q] : BoolP (!b) q p := ⟨fun e => h.f (by simpa using e), fun e => h.t (by simpa using e)⟩
instance boolPA {a b : Bool} {p q p' q' : Prop} [h : BoolP a p q] [k : BoolP b p' q'] : BoolP (a && b) (p ∧ p') ((a && b) = false) := ⟨fun e => by rw [Bool.and_eq_true] at e; exact ⟨h.t e.1, k.t e.2⟩, id⟩
instance boolPO {a b : Bool} {p q p' q' : Prop} [h : BoolP a p q] [k : BoolP b p' q'] : BoolP (a || b) ((a || b) = true) (q ∧ q') := ⟨id, fun e => by rw [Bool.or_eq_false_iff] at e; exact ⟨h.f e.1, k.f e.2⟩⟩
section
variable {P : Program} {n : Nat} {w : World} {f : Fr}
theorem WC.cq {c : Operand} {x y : Code} {t : Bool} {p q : Prop} {Q : Kont} (hc : ev f c = some (.bool t)) [i : BoolP t p q] (hx : t = true → p → WC P n x Q f w) (hy : t = false → q → WC P n y Q f w) : WC P n (.cond c x y) Q f w :=
 WC.cond hc (fun h => hx h (i.t h)) (fun h => hy h (i.f h))
end
def rstr : List Nat → Fr → Option Fr
 | [], _ => some []
 | i :: r, f => match lk f i with
  | some v => (match rstr r f with
   | some g => some ((i, v) :: g)
   | none => none)
  | none => none
theorem rstr_ok : ∀ {is : List Nat} {f F : Fr}, rstr is f = some F → Sub F f
 | [], f, F, h => by simp only [rstr, Option.some.injEq] at h; subst h; trivial
 | i :: r, f, F, h => by
  unfold rstr at h
  split at h
  ·rename_i v hv
   split at h
   ·rename_i g hg
    simp only [Option.some.injEq] at h
    subst h
    exact ⟨hv, rstr_ok hg⟩
   ·cases h
  ·cases h
def keysF : Fr → List Nat
 | [] => []
 | (i, _) :: r => i :: keysF r
theorem sbF {F f : Fr} (h : rstr (keysF F) f = some F) : Sub F f := rstr_ok h
section
variable {P : Program} {n : Nat} {c : Code} {Q : Kont} {f : Fr} {w0 w : World} {T : List Nat} {R L L0 : Hp}
theorem WC.lV {F : Fr} {L0 : Hp} (is : List Nat) (hF : rstr is f = some F) (hst : St w0 T (L0 ++ R) w) (I : Nat → Hp → Fr → Prop) (k0 : Nat) (h0 : I k0 L0 f)
  (hr : ∀ k a f w, I k a f → Sub F f → St w0 T (a ++ R) w → WC P n c (thenK (fun f' w' => Sub F f' ∧ ∃ a', St w0 T (a' ++ R) w' ∧ ∃ k', k' < k ∧ I k' a' f') Q) f w) : WC P n (.loop c) Q f w :=
 WC.loopV (α := Hp) F (rstr_ok hF) (fun a => a) L0 hst I k0 h0 hr
theorem WC.lS {F : Fr} (is : List Nat) (hF : rstr is f = some F) (hst : St w0 T L w) (I : Nat → Fr → World → Prop) (k0 : Nat) (h0 : I k0 f w)
  (hr : ∀ k f w, I k f w → Sub F f → St w0 T L w → WC P n c (thenK (fun f' w' => Sub F f' ∧ St w0 T L w' ∧ ∃ k', k' < k ∧ I k' f' w') Q) f w) : WC P n (.loop c) Q f w :=
 WC.loopS F (rstr_ok hF) hst I k0 h0 hr
theorem WC.lO {F : Fr} (is : List Nat) (hF : rstr is f = some F) (hst : St w0 T (L0 ++ R) w) (I : Nat → Fr → Hp → Prop) (k0 : Nat) (h0 : I k0 f L0)
  (hr : ∀ k f w L, I k f L → Sub F f → St w0 T (L ++ R) w → WC P n c (thenK (fun f' w' => Sub F f' ∧ ∃ L', St w0 T (L' ++ R) w' ∧ ∃ k', k' < k ∧ I k' f' L') Q) f w) : WC P n (.loop c) Q f w :=
 WC.loopO F (rstr_ok hF) hst I k0 h0 hr
end
def clC (n : Nat) (o : Oper) (f : Fr) : Option (FuncId × List Value × Nat) :=
 match o.guard, o.dst, o.op with
 | none, some d, .call c => (match c.callee with
  | .value fo => (match ev f fo, evs f c.args.toList with
   | some (.func (.func g) ⟨[]⟩ ⟨[]⟩), some vl => bif Nat.blt d n then some (g, vl, d) else none
   | _, _ => none)
  | _ => none)
 | _, _, _ => none
section
variable {P : Program} {n : Nat} {ol rest : List Oper} {o : Oper} {K : Fr → World → Prop} {f : Fr} {w : World}
theorem WL.cl {g d : Nat} {vl : List Value} {R : Ending → World → Prop} (hf : ∀ args w, (callFunc g args).run P w = .ok (.enter g args) w) (h : clC n o f = some (g, vl, d)) (hc : Calls P g vl.toArray w R) (k : ∀ e w', R e w' → ∃ v, e = .returned v ∧ WL P n ol rest K ((d, v) :: f) w') : WL P n ol (o :: rest) K f w := by
 unfold clC at h
 split at h
 ·rename_i d' c hg hd ho
  split at h
  ·rename_i fo hcal
   split at h
   ·rename_i g' vl' hfo hvs
    cases hn : Nat.blt d' n with
    | false => rw [hn] at h; cases h
    | true =>
     rw [hn] at h
     simp only [cond_true, Option.some.injEq, Prod.mk.injEq] at h
     obtain ⟨rfl, rfl, rfl⟩ := h
     refine WL.call (want_none hg) hd hn (Run.call (ts := c.argTypes) (args := c.args) hf ?_ hfo hvs) hc k
     rw [ho]
     obtain ⟨c1, c2, c3⟩ := c
     simp only at hcal
     subst hcal
     rfl
   ·cases h
  ·cases h
 ·cases h
end
def digB : Nat → Nat → List UInt8 → List UInt8
  | 0, _, a => a
  | f + 1, n, a => if n = 0 then a else digB f (n / 10) (ub (48 + ((n % 10 : Nat) : Int)) :: a)
def markText (k : Int) : ByteArray := ⟨(109 :: (if k ≤ 0 then [48] else digB 40 k.toNat [])).toArray⟩
structure FileD where
 Id : Int
 Body : List UInt8
 Safe : Int
theorem FileD.ext' {x y : FileD} (h0 : x.Id = y.Id) (h1 : x.Body = y.Body) (h2 : x.Safe = y.Safe) : x = y := by cases x; cases y; simp_all
theorem FileD.iff' {x y : FileD} : x = y ↔ x.Id = y.Id ∧ x.Body = y.Body ∧ x.Safe = y.Safe := ⟨fun h => by subst h; simp, fun h => by cases x; cases y; simp_all⟩
instance : DecidableEq FileD := fun x y => decidable_of_iff (x.Id = y.Id ∧ x.Body = y.Body ∧ x.Safe = y.Safe) FileD.iff'.symm
structure LinkD where
 Name : ByteArray
 Id : Int
theorem LinkD.ext' {x y : LinkD} (h0 : x.Name = y.Name) (h1 : x.Id = y.Id) : x = y := by cases x; cases y; simp_all
theorem LinkD.iff' {x y : LinkD} : x = y ↔ x.Name = y.Name ∧ x.Id = y.Id := ⟨fun h => by subst h; simp, fun h => by cases x; cases y; simp_all⟩
instance : DecidableEq LinkD := fun x y => decidable_of_iff (x.Name = y.Name ∧ x.Id = y.Id) LinkD.iff'.symm
structure TurnD where
 Kind : Int
 Name : ByteArray
 To : ByteArray
 Id : Int
theorem TurnD.ext' {x y : TurnD} (h0 : x.Kind = y.Kind) (h1 : x.Name = y.Name) (h2 : x.To = y.To) (h3 : x.Id = y.Id) : x = y := by cases x; cases y; simp_all
theorem TurnD.iff' {x y : TurnD} : x = y ↔ x.Kind = y.Kind ∧ x.Name = y.Name ∧ x.To = y.To ∧ x.Id = y.Id := ⟨fun h => by subst h; simp, fun h => by cases x; cases y; simp_all⟩
instance : DecidableEq TurnD := fun x y => decidable_of_iff (x.Kind = y.Kind ∧ x.Name = y.Name ∧ x.To = y.To ∧ x.Id = y.Id) TurnD.iff'.symm
structure DiskD where
 Room : Int
 Fuse : Int
 Next : Int
 Files : List FileD
 Kept : List LinkD
 Turns : List TurnD
theorem DiskD.ext' {x y : DiskD} (h0 : x.Room = y.Room) (h1 : x.Fuse = y.Fuse) (h2 : x.Next = y.Next) (h3 : x.Files = y.Files) (h4 : x.Kept = y.Kept) (h5 : x.Turns = y.Turns) : x = y := by cases x; cases y; simp_all
theorem DiskD.iff' {x y : DiskD} : x = y ↔ x.Room = y.Room ∧ x.Fuse = y.Fuse ∧ x.Next = y.Next ∧ x.Files = y.Files ∧ x.Kept = y.Kept ∧ x.Turns = y.Turns := ⟨fun h => by subst h; simp, fun h => by cases x; cases y; simp_all⟩
instance : DecidableEq DiskD := fun x y => decidable_of_iff (x.Room = y.Room ∧ x.Fuse = y.Fuse ∧ x.Next = y.Next ∧ x.Files = y.Files ∧ x.Kept = y.Kept ∧ x.Turns = y.Turns) DiskD.iff'.symm
structure DiskOpD where
 Kind : Int
 Name : ByteArray
 To : ByteArray
 Data : List UInt8
theorem DiskOpD.ext' {x y : DiskOpD} (h0 : x.Kind = y.Kind) (h1 : x.Name = y.Name) (h2 : x.To = y.To) (h3 : x.Data = y.Data) : x = y := by cases x; cases y; simp_all
theorem DiskOpD.iff' {x y : DiskOpD} : x = y ↔ x.Kind = y.Kind ∧ x.Name = y.Name ∧ x.To = y.To ∧ x.Data = y.Data := ⟨fun h => by subst h; simp, fun h => by cases x; cases y; simp_all⟩
instance : DecidableEq DiskOpD := fun x y => decidable_of_iff (x.Kind = y.Kind ∧ x.Name = y.Name ∧ x.To = y.To ∧ x.Data = y.Data) DiskOpD.iff'.symm
structure LoadD where
 Data : List UInt8
theorem LoadD.ext' {x y : LoadD} (h0 : x.Data = y.Data) : x = y := by cases x; cases y; simp_all
theorem LoadD.iff' {x y : LoadD} : x = y ↔ x.Data = y.Data := ⟨fun h => by subst h; simp, fun h => by cases x; cases y; simp_all⟩
instance : DecidableEq LoadD := fun x y => decidable_of_iff (x.Data = y.Data) LoadD.iff'.symm
structure DepotD where
 Disk : DiskD
 Gen : Int
 Seq : Int
 Size : Int
 Stuck : Bool
theorem DepotD.ext' {x y : DepotD} (h0 : x.Disk = y.Disk) (h1 : x.Gen = y.Gen) (h2 : x.Seq = y.Seq) (h3 : x.Size = y.Size) (h4 : x.Stuck = y.Stuck) : x = y := by cases x; cases y; simp_all
theorem DepotD.iff' {x y : DepotD} : x = y ↔ x.Disk = y.Disk ∧ x.Gen = y.Gen ∧ x.Seq = y.Seq ∧ x.Size = y.Size ∧ x.Stuck = y.Stuck := ⟨fun h => by subst h; simp, fun h => by cases x; cases y; simp_all⟩
instance : DecidableEq DepotD := fun x y => decidable_of_iff (x.Disk = y.Disk ∧ x.Gen = y.Gen ∧ x.Seq = y.Seq ∧ x.Size = y.Size ∧ x.Stuck = y.Stuck) DepotD.iff'.symm
structure AttrD where
 Fg : Int
 Bg : Int
 Bold : Bool
 Under : Bool
 Turn : Bool
theorem AttrD.ext' {x y : AttrD} (h0 : x.Fg = y.Fg) (h1 : x.Bg = y.Bg) (h2 : x.Bold = y.Bold) (h3 : x.Under = y.Under) (h4 : x.Turn = y.Turn) : x = y := by cases x; cases y; simp_all
theorem AttrD.iff' {x y : AttrD} : x = y ↔ x.Fg = y.Fg ∧ x.Bg = y.Bg ∧ x.Bold = y.Bold ∧ x.Under = y.Under ∧ x.Turn = y.Turn := ⟨fun h => by subst h; simp, fun h => by cases x; cases y; simp_all⟩
instance : DecidableEq AttrD := fun x y => decidable_of_iff (x.Fg = y.Fg ∧ x.Bg = y.Bg ∧ x.Bold = y.Bold ∧ x.Under = y.Under ∧ x.Turn = y.Turn) AttrD.iff'.symm
def encAttr : Enc AttrD := ⟨5, fun d => [i64 d.Fg, i64 d.Bg, .bool d.Bold, .bool d.Under, .bool d.Turn], ⟨0, 0, false, false, false⟩, fun _ => rfl, fun x v h => by simp at h; rcases h with rfl | rfl | rfl | rfl | rfl <;> rfl, by decide⟩
structure CellD where
 R : Int
 A : AttrD
theorem CellD.ext' {x y : CellD} (h0 : x.R = y.R) (h1 : x.A = y.A) : x = y := by cases x; cases y; simp_all
theorem CellD.iff' {x y : CellD} : x = y ↔ x.R = y.R ∧ x.A = y.A := ⟨fun h => by subst h; simp, fun h => by cases x; cases y; simp_all⟩
instance : DecidableEq CellD := fun x y => decidable_of_iff (x.R = y.R ∧ x.A = y.A) CellD.iff'.symm
def encCell : Enc CellD := ⟨6, fun d => [i64 d.R, i64 d.A.Fg, i64 d.A.Bg, .bool d.A.Bold, .bool d.A.Under, .bool d.A.Turn], ⟨0, ⟨0, 0, false, false, false⟩⟩, fun _ => rfl, fun x v h => by simp at h; rcases h with rfl | rfl | rfl | rfl | rfl | rfl <;> rfl, by decide⟩
def mkCell (k : Int) : CellD := ⟨k, ⟨(k + 1), (k + 1 + 1), decide ((k + 1 + 1 + 1) % 3 = 0), decide ((k + 1 + 1 + 1 + 1) % 3 = 0), decide ((k + 1 + 1 + 1 + 1 + 1) % 3 = 0)⟩⟩
structure GridD where
 W : Int
 H : Int
 Cells : List CellD
theorem GridD.ext' {x y : GridD} (h0 : x.W = y.W) (h1 : x.H = y.H) (h2 : x.Cells = y.Cells) : x = y := by cases x; cases y; simp_all
theorem GridD.iff' {x y : GridD} : x = y ↔ x.W = y.W ∧ x.H = y.H ∧ x.Cells = y.Cells := ⟨fun h => by subst h; simp, fun h => by cases x; cases y; simp_all⟩
instance : DecidableEq GridD := fun x y => decidable_of_iff (x.W = y.W ∧ x.H = y.H ∧ x.Cells = y.Cells) GridD.iff'.symm
structure VpD where
 State : Int
 Mark : Bool
 Args : List Int
 Part : List UInt8
theorem VpD.ext' {x y : VpD} (h0 : x.State = y.State) (h1 : x.Mark = y.Mark) (h2 : x.Args = y.Args) (h3 : x.Part = y.Part) : x = y := by cases x; cases y; simp_all
theorem VpD.iff' {x y : VpD} : x = y ↔ x.State = y.State ∧ x.Mark = y.Mark ∧ x.Args = y.Args ∧ x.Part = y.Part := ⟨fun h => by subst h; simp, fun h => by cases x; cases y; simp_all⟩
instance : DecidableEq VpD := fun x y => decidable_of_iff (x.State = y.State ∧ x.Mark = y.Mark ∧ x.Args = y.Args ∧ x.Part = y.Part) VpD.iff'.symm
structure ActD where
 Kind : Int
 R : Int
 Mark : Bool
 Args : List Int
theorem ActD.ext' {x y : ActD} (h0 : x.Kind = y.Kind) (h1 : x.R = y.R) (h2 : x.Mark = y.Mark) (h3 : x.Args = y.Args) : x = y := by cases x; cases y; simp_all
theorem ActD.iff' {x y : ActD} : x = y ↔ x.Kind = y.Kind ∧ x.R = y.R ∧ x.Mark = y.Mark ∧ x.Args = y.Args := ⟨fun h => by subst h; simp, fun h => by cases x; cases y; simp_all⟩
instance : DecidableEq ActD := fun x y => decidable_of_iff (x.Kind = y.Kind ∧ x.R = y.R ∧ x.Mark = y.Mark ∧ x.Args = y.Args) ActD.iff'.symm
structure RowD where
 Cells : List CellD
theorem RowD.ext' {x y : RowD} (h0 : x.Cells = y.Cells) : x = y := by cases x; cases y; simp_all
theorem RowD.iff' {x y : RowD} : x = y ↔ x.Cells = y.Cells := ⟨fun h => by subst h; simp, fun h => by cases x; cases y; simp_all⟩
instance : DecidableEq RowD := fun x y => decidable_of_iff (x.Cells = y.Cells) RowD.iff'.symm
structure ScrD where
 W : Int
 H : Int
 Main : GridD
 Alt : GridD
 OnAlt : Bool
 X : Int
 Y : Int
 Wrap : Bool
 A : AttrD
 Top : Int
 Bot : Int
 NoWrap : Bool
 Hide : Bool
 SaveX : Int
 SaveY : Int
 SaveA : AttrD
 Tabs : List Int
 Limit : Int
 Back : List RowD
theorem ScrD.ext' {x y : ScrD} (h0 : x.W = y.W) (h1 : x.H = y.H) (h2 : x.Main = y.Main) (h3 : x.Alt = y.Alt) (h4 : x.OnAlt = y.OnAlt) (h5 : x.X = y.X) (h6 : x.Y = y.Y) (h7 : x.Wrap = y.Wrap) (h8 : x.A = y.A) (h9 : x.Top = y.Top) (h10 : x.Bot = y.Bot) (h11 : x.NoWrap = y.NoWrap) (h12 : x.Hide = y.Hide) (h13 : x.SaveX = y.SaveX) (h14 : x.SaveY = y.SaveY) (h15 : x.SaveA = y.SaveA) (h16 : x.Tabs = y.Tabs) (h17 : x.Limit = y.Limit) (h18 : x.Back = y.Back) : x = y := by cases x; cases y; simp_all
theorem ScrD.iff' {x y : ScrD} : x = y ↔ x.W = y.W ∧ x.H = y.H ∧ x.Main = y.Main ∧ x.Alt = y.Alt ∧ x.OnAlt = y.OnAlt ∧ x.X = y.X ∧ x.Y = y.Y ∧ x.Wrap = y.Wrap ∧ x.A = y.A ∧ x.Top = y.Top ∧ x.Bot = y.Bot ∧ x.NoWrap = y.NoWrap ∧ x.Hide = y.Hide ∧ x.SaveX = y.SaveX ∧ x.SaveY = y.SaveY ∧ x.SaveA = y.SaveA ∧ x.Tabs = y.Tabs ∧ x.Limit = y.Limit ∧ x.Back = y.Back := ⟨fun h => by subst h; simp, fun h => by cases x; cases y; simp_all⟩
instance : DecidableEq ScrD := fun x y => decidable_of_iff (x.W = y.W ∧ x.H = y.H ∧ x.Main = y.Main ∧ x.Alt = y.Alt ∧ x.OnAlt = y.OnAlt ∧ x.X = y.X ∧ x.Y = y.Y ∧ x.Wrap = y.Wrap ∧ x.A = y.A ∧ x.Top = y.Top ∧ x.Bot = y.Bot ∧ x.NoWrap = y.NoWrap ∧ x.Hide = y.Hide ∧ x.SaveX = y.SaveX ∧ x.SaveY = y.SaveY ∧ x.SaveA = y.SaveA ∧ x.Tabs = y.Tabs ∧ x.Limit = y.Limit ∧ x.Back = y.Back) ScrD.iff'.symm
structure TermD where
 P : VpD
 S : ScrD
theorem TermD.ext' {x y : TermD} (h0 : x.P = y.P) (h1 : x.S = y.S) : x = y := by cases x; cases y; simp_all
theorem TermD.iff' {x y : TermD} : x = y ↔ x.P = y.P ∧ x.S = y.S := ⟨fun h => by subst h; simp, fun h => by cases x; cases y; simp_all⟩
instance : DecidableEq TermD := fun x y => decidable_of_iff (x.P = y.P ∧ x.S = y.S) TermD.iff'.symm
structure NodeD where
 Pane : Int
 Down : Bool
 First : Int
theorem NodeD.ext' {x y : NodeD} (h0 : x.Pane = y.Pane) (h1 : x.Down = y.Down) (h2 : x.First = y.First) : x = y := by cases x; cases y; simp_all
theorem NodeD.iff' {x y : NodeD} : x = y ↔ x.Pane = y.Pane ∧ x.Down = y.Down ∧ x.First = y.First := ⟨fun h => by subst h; simp, fun h => by cases x; cases y; simp_all⟩
instance : DecidableEq NodeD := fun x y => decidable_of_iff (x.Pane = y.Pane ∧ x.Down = y.Down ∧ x.First = y.First) NodeD.iff'.symm
def encNode : Enc NodeD := ⟨3, fun d => [i64 d.Pane, .bool d.Down, i64 d.First], ⟨0, false, 0⟩, fun _ => rfl, fun x v h => by simp at h; rcases h with rfl | rfl | rfl <;> rfl, by decide⟩
def mkNode (k : Int) : NodeD := ⟨k, decide ((k + 1) % 3 = 0), (k + 1 + 1)⟩
structure PaneD where
 Id : Int
 Cmd : ByteArray
 Dir : ByteArray
 Life : Int
 Code : Int
 Pid : Int
 Term : TermD
theorem PaneD.ext' {x y : PaneD} (h0 : x.Id = y.Id) (h1 : x.Cmd = y.Cmd) (h2 : x.Dir = y.Dir) (h3 : x.Life = y.Life) (h4 : x.Code = y.Code) (h5 : x.Pid = y.Pid) (h6 : x.Term = y.Term) : x = y := by cases x; cases y; simp_all
theorem PaneD.iff' {x y : PaneD} : x = y ↔ x.Id = y.Id ∧ x.Cmd = y.Cmd ∧ x.Dir = y.Dir ∧ x.Life = y.Life ∧ x.Code = y.Code ∧ x.Pid = y.Pid ∧ x.Term = y.Term := ⟨fun h => by subst h; simp, fun h => by cases x; cases y; simp_all⟩
instance : DecidableEq PaneD := fun x y => decidable_of_iff (x.Id = y.Id ∧ x.Cmd = y.Cmd ∧ x.Dir = y.Dir ∧ x.Life = y.Life ∧ x.Code = y.Code ∧ x.Pid = y.Pid ∧ x.Term = y.Term) PaneD.iff'.symm
structure WinD where
 Id : Int
 Name : ByteArray
 Tree : List NodeD
 Active : Int
 Zoom : Bool
theorem WinD.ext' {x y : WinD} (h0 : x.Id = y.Id) (h1 : x.Name = y.Name) (h2 : x.Tree = y.Tree) (h3 : x.Active = y.Active) (h4 : x.Zoom = y.Zoom) : x = y := by cases x; cases y; simp_all
theorem WinD.iff' {x y : WinD} : x = y ↔ x.Id = y.Id ∧ x.Name = y.Name ∧ x.Tree = y.Tree ∧ x.Active = y.Active ∧ x.Zoom = y.Zoom := ⟨fun h => by subst h; simp, fun h => by cases x; cases y; simp_all⟩
instance : DecidableEq WinD := fun x y => decidable_of_iff (x.Id = y.Id ∧ x.Name = y.Name ∧ x.Tree = y.Tree ∧ x.Active = y.Active ∧ x.Zoom = y.Zoom) WinD.iff'.symm
structure SessD where
 Name : ByteArray
 Wins : List Int
 Active : Int
theorem SessD.ext' {x y : SessD} (h0 : x.Name = y.Name) (h1 : x.Wins = y.Wins) (h2 : x.Active = y.Active) : x = y := by cases x; cases y; simp_all
theorem SessD.iff' {x y : SessD} : x = y ↔ x.Name = y.Name ∧ x.Wins = y.Wins ∧ x.Active = y.Active := ⟨fun h => by subst h; simp, fun h => by cases x; cases y; simp_all⟩
instance : DecidableEq SessD := fun x y => decidable_of_iff (x.Name = y.Name ∧ x.Wins = y.Wins ∧ x.Active = y.Active) SessD.iff'.symm
structure StateD where
 W : Int
 H : Int
 Limit : Int
 Next : Int
 Panes : List PaneD
 Wins : List WinD
 Sess : List SessD
theorem StateD.ext' {x y : StateD} (h0 : x.W = y.W) (h1 : x.H = y.H) (h2 : x.Limit = y.Limit) (h3 : x.Next = y.Next) (h4 : x.Panes = y.Panes) (h5 : x.Wins = y.Wins) (h6 : x.Sess = y.Sess) : x = y := by cases x; cases y; simp_all
theorem StateD.iff' {x y : StateD} : x = y ↔ x.W = y.W ∧ x.H = y.H ∧ x.Limit = y.Limit ∧ x.Next = y.Next ∧ x.Panes = y.Panes ∧ x.Wins = y.Wins ∧ x.Sess = y.Sess := ⟨fun h => by subst h; simp, fun h => by cases x; cases y; simp_all⟩
instance : DecidableEq StateD := fun x y => decidable_of_iff (x.W = y.W ∧ x.H = y.H ∧ x.Limit = y.Limit ∧ x.Next = y.Next ∧ x.Panes = y.Panes ∧ x.Wins = y.Wins ∧ x.Sess = y.Sess) StateD.iff'.symm
structure OpD where
 Kind : Int
 A : Int
 B : Int
 C : Int
 Name : ByteArray
 Text : ByteArray
 Dir : ByteArray
 Data : List UInt8
theorem OpD.ext' {x y : OpD} (h0 : x.Kind = y.Kind) (h1 : x.A = y.A) (h2 : x.B = y.B) (h3 : x.C = y.C) (h4 : x.Name = y.Name) (h5 : x.Text = y.Text) (h6 : x.Dir = y.Dir) (h7 : x.Data = y.Data) : x = y := by cases x; cases y; simp_all
theorem OpD.iff' {x y : OpD} : x = y ↔ x.Kind = y.Kind ∧ x.A = y.A ∧ x.B = y.B ∧ x.C = y.C ∧ x.Name = y.Name ∧ x.Text = y.Text ∧ x.Dir = y.Dir ∧ x.Data = y.Data := ⟨fun h => by subst h; simp, fun h => by cases x; cases y; simp_all⟩
instance : DecidableEq OpD := fun x y => decidable_of_iff (x.Kind = y.Kind ∧ x.A = y.A ∧ x.B = y.B ∧ x.C = y.C ∧ x.Name = y.Name ∧ x.Text = y.Text ∧ x.Dir = y.Dir ∧ x.Data = y.Data) OpD.iff'.symm
structure ViewD where
 Grid : GridD
 X : Int
 Y : Int
 Hide : Bool
theorem ViewD.ext' {x y : ViewD} (h0 : x.Grid = y.Grid) (h1 : x.X = y.X) (h2 : x.Y = y.Y) (h3 : x.Hide = y.Hide) : x = y := by cases x; cases y; simp_all
theorem ViewD.iff' {x y : ViewD} : x = y ↔ x.Grid = y.Grid ∧ x.X = y.X ∧ x.Y = y.Y ∧ x.Hide = y.Hide := ⟨fun h => by subst h; simp, fun h => by cases x; cases y; simp_all⟩
instance : DecidableEq ViewD := fun x y => decidable_of_iff (x.Grid = y.Grid ∧ x.X = y.X ∧ x.Y = y.Y ∧ x.Hide = y.Hide) ViewD.iff'.symm
structure ProcD where
 Pid : Int
 Pane : Int
theorem ProcD.ext' {x y : ProcD} (h0 : x.Pid = y.Pid) (h1 : x.Pane = y.Pane) : x = y := by cases x; cases y; simp_all
theorem ProcD.iff' {x y : ProcD} : x = y ↔ x.Pid = y.Pid ∧ x.Pane = y.Pane := ⟨fun h => by subst h; simp, fun h => by cases x; cases y; simp_all⟩
instance : DecidableEq ProcD := fun x y => decidable_of_iff (x.Pid = y.Pid ∧ x.Pane = y.Pane) ProcD.iff'.symm
structure AskD where
 Pane : Int
 Cmd : ByteArray
 Dir : ByteArray
 W : Int
 H : Int
 Pid : Int
theorem AskD.ext' {x y : AskD} (h0 : x.Pane = y.Pane) (h1 : x.Cmd = y.Cmd) (h2 : x.Dir = y.Dir) (h3 : x.W = y.W) (h4 : x.H = y.H) (h5 : x.Pid = y.Pid) : x = y := by cases x; cases y; simp_all
theorem AskD.iff' {x y : AskD} : x = y ↔ x.Pane = y.Pane ∧ x.Cmd = y.Cmd ∧ x.Dir = y.Dir ∧ x.W = y.W ∧ x.H = y.H ∧ x.Pid = y.Pid := ⟨fun h => by subst h; simp, fun h => by cases x; cases y; simp_all⟩
instance : DecidableEq AskD := fun x y => decidable_of_iff (x.Pane = y.Pane ∧ x.Cmd = y.Cmd ∧ x.Dir = y.Dir ∧ x.W = y.W ∧ x.H = y.H ∧ x.Pid = y.Pid) AskD.iff'.symm
structure TableD where
 Next : Int
 Live : List ProcD
 Asked : List AskD
theorem TableD.ext' {x y : TableD} (h0 : x.Next = y.Next) (h1 : x.Live = y.Live) (h2 : x.Asked = y.Asked) : x = y := by cases x; cases y; simp_all
theorem TableD.iff' {x y : TableD} : x = y ↔ x.Next = y.Next ∧ x.Live = y.Live ∧ x.Asked = y.Asked := ⟨fun h => by subst h; simp, fun h => by cases x; cases y; simp_all⟩
instance : DecidableEq TableD := fun x y => decidable_of_iff (x.Next = y.Next ∧ x.Live = y.Live ∧ x.Asked = y.Asked) TableD.iff'.symm
structure HistD where
 Lost : Bool
 Op : OpD
theorem HistD.ext' {x y : HistD} (h0 : x.Lost = y.Lost) (h1 : x.Op = y.Op) : x = y := by cases x; cases y; simp_all
theorem HistD.iff' {x y : HistD} : x = y ↔ x.Lost = y.Lost ∧ x.Op = y.Op := ⟨fun h => by subst h; simp, fun h => by cases x; cases y; simp_all⟩
instance : DecidableEq HistD := fun x y => decidable_of_iff (x.Lost = y.Lost ∧ x.Op = y.Op) HistD.iff'.symm
structure SrvD where
 Base : StateD
 Top : Int
 Up : Bool
 St : StateD
 Dep : DepotD
 Disk : DiskD
 Tab : TableD
 Sure : Int
 Done : List HistD
theorem SrvD.ext' {x y : SrvD} (h0 : x.Base = y.Base) (h1 : x.Top = y.Top) (h2 : x.Up = y.Up) (h3 : x.St = y.St) (h4 : x.Dep = y.Dep) (h5 : x.Disk = y.Disk) (h6 : x.Tab = y.Tab) (h7 : x.Sure = y.Sure) (h8 : x.Done = y.Done) : x = y := by cases x; cases y; simp_all
theorem SrvD.iff' {x y : SrvD} : x = y ↔ x.Base = y.Base ∧ x.Top = y.Top ∧ x.Up = y.Up ∧ x.St = y.St ∧ x.Dep = y.Dep ∧ x.Disk = y.Disk ∧ x.Tab = y.Tab ∧ x.Sure = y.Sure ∧ x.Done = y.Done := ⟨fun h => by subst h; simp, fun h => by cases x; cases y; simp_all⟩
instance : DecidableEq SrvD := fun x y => decidable_of_iff (x.Base = y.Base ∧ x.Top = y.Top ∧ x.Up = y.Up ∧ x.St = y.St ∧ x.Dep = y.Dep ∧ x.Disk = y.Disk ∧ x.Tab = y.Tab ∧ x.Sure = y.Sure ∧ x.Done = y.Done) SrvD.iff'.symm
structure StepD where
 Kind : Int
 A : Int
 B : Int
 Text : ByteArray
 Data : List UInt8
 Cuts : List Int
theorem StepD.ext' {x y : StepD} (h0 : x.Kind = y.Kind) (h1 : x.A = y.A) (h2 : x.B = y.B) (h3 : x.Text = y.Text) (h4 : x.Data = y.Data) (h5 : x.Cuts = y.Cuts) : x = y := by cases x; cases y; simp_all
theorem StepD.iff' {x y : StepD} : x = y ↔ x.Kind = y.Kind ∧ x.A = y.A ∧ x.B = y.B ∧ x.Text = y.Text ∧ x.Data = y.Data ∧ x.Cuts = y.Cuts := ⟨fun h => by subst h; simp, fun h => by cases x; cases y; simp_all⟩
instance : DecidableEq StepD := fun x y => decidable_of_iff (x.Kind = y.Kind ∧ x.A = y.A ∧ x.B = y.B ∧ x.Text = y.Text ∧ x.Data = y.Data ∧ x.Cuts = y.Cuts) StepD.iff'.symm
structure RectD where
 Pane : Int
 X : Int
 Y : Int
 W : Int
 H : Int
theorem RectD.ext' {x y : RectD} (h0 : x.Pane = y.Pane) (h1 : x.X = y.X) (h2 : x.Y = y.Y) (h3 : x.W = y.W) (h4 : x.H = y.H) : x = y := by cases x; cases y; simp_all
theorem RectD.iff' {x y : RectD} : x = y ↔ x.Pane = y.Pane ∧ x.X = y.X ∧ x.Y = y.Y ∧ x.W = y.W ∧ x.H = y.H := ⟨fun h => by subst h; simp, fun h => by cases x; cases y; simp_all⟩
instance : DecidableEq RectD := fun x y => decidable_of_iff (x.Pane = y.Pane ∧ x.X = y.X ∧ x.Y = y.Y ∧ x.W = y.W ∧ x.H = y.H) RectD.iff'.symm
def encRect : Enc RectD := ⟨5, fun d => [i64 d.Pane, i64 d.X, i64 d.Y, i64 d.W, i64 d.H], ⟨0, 0, 0, 0, 0⟩, fun _ => rfl, fun x v h => by simp at h; rcases h with rfl | rfl | rfl | rfl | rfl <;> rfl, by decide⟩
structure GridR where
  W : Int
  H : Int
  Cells : SlD CellD
def encGridR : Enc GridR := ⟨3, fun d => [i64 d.W, i64 d.H, .slice d.Cells.A d.Cells.n d.Cells.c], ⟨0, 0, ⟨none, 0, 0, []⟩⟩, fun _ => rfl, fun x v h => by simp at h; rcases h with rfl | rfl | rfl <;> rfl, by decide⟩
structure okGridR (B : Nat) (w : World) (x : GridR) : Prop where
  Cells : SlF encCell w x.Cells.A x.Cells.n x.Cells.xs
  Cells_c : x.Cells.n ≤ x.Cells.c
  Cells_n : x.Cells.n ≤ B
structure sepGridR (T : List Nat) (x : GridR) : Prop where
  Cells : 0 < x.Cells.n → (adr x.Cells.A).block ∉ T
theorem okGridR.st0 {B : Nat} {w0 w : World} {L : Hp} {x : GridR} (h : okGridR B w0 x) (hs : St w0 [] L w) : okGridR B w x := ⟨SlF.st0 h.Cells hs, h.Cells_c, h.Cells_n⟩
theorem okGridR.st {B : Nat} {w0 w : World} {T : List Nat} {L : Hp} {x : GridR} (h : okGridR B w0 x) (hs : St w0 T L w) (hp : sepGridR T x) : okGridR B w x := ⟨SlF.st h.Cells hs hp.Cells, h.Cells_c, h.Cells_n⟩
theorem okGridR.le {B B' : Nat} {w : World} {x : GridR} (h : okGridR B w x) (hB : B ≤ B') : okGridR B' w x := ⟨h.Cells, h.Cells_c, Nat.le_trans h.Cells_n hB⟩
def GridR.dat (x : GridR) : GridD := ⟨x.W, x.H, x.Cells.xs⟩
def smGrid (B : Nat) (d : GridD) : Prop := (d.Cells.length ≤ B)
theorem okGridR.to {B B' : Nat} {w : World} {x : GridR} (h : okGridR B w x) (h2 : smGrid B' x.dat) : okGridR B' w x := ⟨h.Cells, h.Cells_c, (by have := h.Cells.len; have h3 := h2; simp only [smGrid, GridR.dat] at h3; omega)⟩
def totGrid (d : GridD) : Nat := d.Cells.length
theorem totGrid_sm {B : Nat} {d : GridD} (h : totGrid d ≤ B) : smGrid B d := by
  simp only [totGrid] at h
  unfold smGrid
  exact (by omega)
def ownGridR (x : GridR) (L : Hp) : Prop := OwnF encCell 164 (.slice x.Cells.A x.Cells.n x.Cells.c) x.Cells.xs L
theorem ownGridR.len {x : GridR} {L : Hp} (h : ownGridR x L) : x.Cells.xs.length = x.Cells.n := by
  exact (OwnF.len_ h)
theorem ownGridR.ok {B : Nat} {w : World} {x : GridR} {L : Hp} (h : ownGridR x L) (hh : ∀ p, p ∈ L → w.heap[p.1]? = some p.2) (h2 : smGrid B x.dat) : okGridR B w x := by
  exact ⟨SlF.ofOwn h (fun p hp => hh p hp), OwnF.cap h, (by have := OwnF.len_ h; have h3 := h2; simp only [GridR.dat, smGrid] at h3; omega)⟩
structure VpR where
  State : Int
  Mark : Bool
  Args : SlD Int
  Part : SlD UInt8
def encVpR : Enc VpR := ⟨4, fun d => [i64 d.State, .bool d.Mark, .slice d.Args.A d.Args.n d.Args.c, .slice d.Part.A d.Part.n d.Part.c], ⟨0, false, ⟨none, 0, 0, []⟩, ⟨none, 0, 0, []⟩⟩, fun _ => rfl, fun x v h => by simp at h; rcases h with rfl | rfl | rfl | rfl <;> rfl, by decide⟩
structure okVpR (B : Nat) (w : World) (x : VpR) : Prop where
  Args : SlF encI w x.Args.A x.Args.n x.Args.xs
  Args_c : x.Args.n ≤ x.Args.c
  Args_n : x.Args.n ≤ B
  Part : SlF encB w x.Part.A x.Part.n x.Part.xs
  Part_c : x.Part.n ≤ x.Part.c
  Part_n : x.Part.n ≤ B
structure sepVpR (T : List Nat) (x : VpR) : Prop where
  Args : 0 < x.Args.n → (adr x.Args.A).block ∉ T
  Part : 0 < x.Part.n → (adr x.Part.A).block ∉ T
theorem okVpR.st0 {B : Nat} {w0 w : World} {L : Hp} {x : VpR} (h : okVpR B w0 x) (hs : St w0 [] L w) : okVpR B w x := ⟨SlF.st0 h.Args hs, h.Args_c, h.Args_n, SlF.st0 h.Part hs, h.Part_c, h.Part_n⟩
theorem okVpR.st {B : Nat} {w0 w : World} {T : List Nat} {L : Hp} {x : VpR} (h : okVpR B w0 x) (hs : St w0 T L w) (hp : sepVpR T x) : okVpR B w x := ⟨SlF.st h.Args hs hp.Args, h.Args_c, h.Args_n, SlF.st h.Part hs hp.Part, h.Part_c, h.Part_n⟩
theorem okVpR.le {B B' : Nat} {w : World} {x : VpR} (h : okVpR B w x) (hB : B ≤ B') : okVpR B' w x := ⟨h.Args, h.Args_c, Nat.le_trans h.Args_n hB, h.Part, h.Part_c, Nat.le_trans h.Part_n hB⟩
def VpR.dat (x : VpR) : VpD := ⟨x.State, x.Mark, x.Args.xs, x.Part.xs⟩
def smVp (B : Nat) (d : VpD) : Prop := (d.Args.length ≤ B) ∧ (d.Part.length ≤ B)
theorem okVpR.to {B B' : Nat} {w : World} {x : VpR} (h : okVpR B w x) (h2 : smVp B' x.dat) : okVpR B' w x := ⟨h.Args, h.Args_c, (by have := h.Args.len; have h3 := h2.1; simp only [smVp, VpR.dat] at h3; omega), h.Part, h.Part_c, (by have := h.Part.len; have h3 := h2.2; simp only [smVp, VpR.dat] at h3; omega)⟩
def totVp (d : VpD) : Nat := d.Args.length + d.Part.length
theorem totVp_sm {B : Nat} {d : VpD} (h : totVp d ≤ B) : smVp B d := by
  simp only [totVp] at h
  unfold smVp
  exact ⟨(by omega), (by omega)⟩
def ownVpR (x : VpR) (L : Hp) : Prop := ∃ L1 L2, L = L1 ++ L2 ∧ OwnF encI 3 (.slice x.Args.A x.Args.n x.Args.c) x.Args.xs L1 ∧ OwnF encB 5 (.slice x.Part.A x.Part.n x.Part.c) x.Part.xs L2
theorem ownVpR.fold {w0 w : World} {T : List Nat} {L1 L2 R : Hp} (x : VpR) (hs : St w0 T (L1 ++ (L2 ++ R)) w) (o1 : OwnF encI 3 (.slice x.Args.A x.Args.n x.Args.c) x.Args.xs L1) (o2 : OwnF encB 5 (.slice x.Part.A x.Part.n x.Part.c) x.Part.xs L2) : ∃ L, St w0 T (L ++ R) w ∧ ownVpR x L := ⟨L1 ++ L2, by simpa only [List.append_assoc] using hs, L1, L2, rfl, o1, o2⟩
theorem ownVpR.fl {w0 w : World} {T : List Nat} {L1 L2 L S1 S2 : Hp} [k1 : Fr1 L1 L S1] [k2 : Fr1 L2 S1 S2] {A1 : Option Addr} {n1 c1 : Nat} {x1 : _} {A2 : Option Addr} {n2 c2 : Nat} {x2 : _} (hs : St w0 T L w) (o1 : OwnF encI 3 (.slice A1 n1 c1) x1 L1) (o2 : OwnF encB 5 (.slice A2 n2 c2) x2 L2) : ∃ L', St w0 T (L' ++ S2) w ∧ ownVpR ⟨0, false, ⟨A1, n1, c1, x1⟩, ⟨A2, n2, c2, x2⟩⟩ L' := ⟨L1 ++ L2, by simpa only [List.append_assoc] using hs.perm ((List.Perm.append_left L1 k2.pf).trans k1.pf), L1, L2, rfl, o1, o2⟩
theorem ownVpR.op {w0 w : World} {T : List Nat} {L LL R : Hp} {x : VpR} [k : Fr1 LL L R] (hs : St w0 T L w) (h : ownVpR x LL) : ∃ L1 L2, St w0 T (L1 ++ (L2 ++ R)) w ∧ OwnF encI 3 (.slice x.Args.A x.Args.n x.Args.c) x.Args.xs L1 ∧ OwnF encB 5 (.slice x.Part.A x.Part.n x.Part.c) x.Part.xs L2 := by
  have hs := hs.fr LL
  obtain ⟨L1, L2, rfl, h⟩ := h
  exact ⟨L1, L2, by simpa only [List.append_assoc] using hs, h⟩
theorem ownVpR.ret {w w' : World} {K : List Nat} {L1 : Hp} {e : Ending} {D : VpD} {v0 : Int} {v1 : Bool} {A1 : Option Addr} {n1 c1 : Nat} {x1 : _} {A2 : Option Addr} {n2 c2 : Nat} {x2 : _} (he : e = .returned (.agg (List.toArray [i64 v0, .bool v1, .slice A1 n1 c1, .slice A2 n2 c2]))) (hs : St w K L1 w') (ho : ownVpR ⟨0, false, ⟨A1, n1, c1, x1⟩, ⟨A2, n2, c2, x2⟩⟩ L1) (hd : (⟨v0, v1, ⟨A1, n1, c1, x1⟩, ⟨A2, n2, c2, x2⟩⟩ : VpR).dat = D) : ∃ r L1, e = .returned (.agg #[i64 r.State, .bool r.Mark, .slice r.Args.A r.Args.n r.Args.c, .slice r.Part.A r.Part.n r.Part.c]) ∧ St w K L1 w' ∧ ownVpR r L1 ∧ r.dat = D := ⟨⟨v0, v1, ⟨A1, n1, c1, x1⟩, ⟨A2, n2, c2, x2⟩⟩, L1, he, hs, ho, hd⟩
theorem ownVpR.open_ {w0 w : World} {T : List Nat} {L R : Hp} {x : VpR} (hs : St w0 T (L ++ R) w) (h : ownVpR x L) : ∃ L1 L2, St w0 T (L1 ++ (L2 ++ R)) w ∧ OwnF encI 3 (.slice x.Args.A x.Args.n x.Args.c) x.Args.xs L1 ∧ OwnF encB 5 (.slice x.Part.A x.Part.n x.Part.c) x.Part.xs L2 := by
  obtain ⟨L1, L2, rfl, h⟩ := h
  exact ⟨L1, L2, by simpa only [List.append_assoc] using hs, h⟩
theorem ownVpR.len {x : VpR} {L : Hp} (h : ownVpR x L) : x.Args.xs.length = x.Args.n ∧ x.Part.xs.length = x.Part.n := by
  obtain ⟨L1, L2, rfl, o1, o2⟩ := h
  exact ⟨(OwnF.len_ o1), (OwnF.len_ o2)⟩
theorem ownVpR.ok {B : Nat} {w : World} {x : VpR} {L : Hp} (h : ownVpR x L) (hh : ∀ p, p ∈ L → w.heap[p.1]? = some p.2) (h2 : smVp B x.dat) : okVpR B w x := by
  obtain ⟨L1, L2, rfl, o1, o2⟩ := h
  simp only [List.mem_append] at hh
  exact ⟨SlF.ofOwn o1 (fun p hp => hh p (.inl hp)), OwnF.cap o1, (by have := OwnF.len_ o1; have h3 := h2.1; simp only [VpR.dat, smVp] at h3; omega), SlF.ofOwn o2 (fun p hp => hh p (.inr (hp))), OwnF.cap o2, (by have := OwnF.len_ o2; have h3 := h2.2; simp only [VpR.dat, smVp] at h3; omega)⟩
structure RowR where
  Cells : SlD CellD
def encRowR : Enc RowR := ⟨1, fun d => [.slice d.Cells.A d.Cells.n d.Cells.c], ⟨⟨none, 0, 0, []⟩⟩, fun _ => rfl, fun x v h => by simp at h; rcases h with rfl <;> rfl, by decide⟩
structure okRowR (B : Nat) (w : World) (x : RowR) : Prop where
  Cells : SlF encCell w x.Cells.A x.Cells.n x.Cells.xs
  Cells_c : x.Cells.n ≤ x.Cells.c
  Cells_n : x.Cells.n ≤ B
structure sepRowR (T : List Nat) (x : RowR) : Prop where
  Cells : 0 < x.Cells.n → (adr x.Cells.A).block ∉ T
theorem okRowR.st0 {B : Nat} {w0 w : World} {L : Hp} {x : RowR} (h : okRowR B w0 x) (hs : St w0 [] L w) : okRowR B w x := ⟨SlF.st0 h.Cells hs, h.Cells_c, h.Cells_n⟩
theorem okRowR.st {B : Nat} {w0 w : World} {T : List Nat} {L : Hp} {x : RowR} (h : okRowR B w0 x) (hs : St w0 T L w) (hp : sepRowR T x) : okRowR B w x := ⟨SlF.st h.Cells hs hp.Cells, h.Cells_c, h.Cells_n⟩
theorem okRowR.le {B B' : Nat} {w : World} {x : RowR} (h : okRowR B w x) (hB : B ≤ B') : okRowR B' w x := ⟨h.Cells, h.Cells_c, Nat.le_trans h.Cells_n hB⟩
def RowR.dat (x : RowR) : RowD := ⟨x.Cells.xs⟩
def smRow (B : Nat) (d : RowD) : Prop := (d.Cells.length ≤ B)
theorem okRowR.to {B B' : Nat} {w : World} {x : RowR} (h : okRowR B w x) (h2 : smRow B' x.dat) : okRowR B' w x := ⟨h.Cells, h.Cells_c, (by have := h.Cells.len; have h3 := h2; simp only [smRow, RowR.dat] at h3; omega)⟩
def totRow (d : RowD) : Nat := d.Cells.length
theorem totRow_sm {B : Nat} {d : RowD} (h : totRow d ≤ B) : smRow B d := by
  simp only [totRow] at h
  unfold smRow
  exact (by omega)
def ownRowR (x : RowR) (L : Hp) : Prop := OwnF encCell 164 (.slice x.Cells.A x.Cells.n x.Cells.c) x.Cells.xs L
theorem ownRowR.len {x : RowR} {L : Hp} (h : ownRowR x L) : x.Cells.xs.length = x.Cells.n := by
  exact (OwnF.len_ h)
theorem ownRowR.ok {B : Nat} {w : World} {x : RowR} {L : Hp} (h : ownRowR x L) (hh : ∀ p, p ∈ L → w.heap[p.1]? = some p.2) (h2 : smRow B x.dat) : okRowR B w x := by
  exact ⟨SlF.ofOwn h (fun p hp => hh p hp), OwnF.cap h, (by have := OwnF.len_ h; have h3 := h2; simp only [RowR.dat, smRow] at h3; omega)⟩
def mkERow (k : Int) (x : RowR) : RowR := ⟨{ x.Cells with xs := marks mkCell 6 k x.Cells.xs.length }⟩
def cntERow (x : RowR) : Int := 0 + 6 * (x.Cells.xs.length : Int)
theorem cntERow_le (x : RowR) : cntERow x ≤ 64 + 64 * (totRow x.dat : Int) := by
  simp only [cntERow, totRow, RowR.dat]
  omega
theorem cntERow_ge (x : RowR) : 0 ≤ cntERow x := by
  simp only [cntERow]
  omega
structure ScrR where
  W : Int
  H : Int
  Main : GridR
  Alt : GridR
  OnAlt : Bool
  X : Int
  Y : Int
  Wrap : Bool
  A : AttrD
  Top : Int
  Bot : Int
  NoWrap : Bool
  Hide : Bool
  SaveX : Int
  SaveY : Int
  SaveA : AttrD
  Tabs : SlD Int
  Limit : Int
  Back : SlD RowR
def encScrR : Enc ScrR := ⟨31, fun d => [i64 d.W, i64 d.H, i64 d.Main.W, i64 d.Main.H, .slice d.Main.Cells.A d.Main.Cells.n d.Main.Cells.c, i64 d.Alt.W, i64 d.Alt.H, .slice d.Alt.Cells.A d.Alt.Cells.n d.Alt.Cells.c, .bool d.OnAlt, i64 d.X, i64 d.Y, .bool d.Wrap, i64 d.A.Fg, i64 d.A.Bg, .bool d.A.Bold, .bool d.A.Under, .bool d.A.Turn, i64 d.Top, i64 d.Bot, .bool d.NoWrap, .bool d.Hide, i64 d.SaveX, i64 d.SaveY, i64 d.SaveA.Fg, i64 d.SaveA.Bg, .bool d.SaveA.Bold, .bool d.SaveA.Under, .bool d.SaveA.Turn, .slice d.Tabs.A d.Tabs.n d.Tabs.c, i64 d.Limit, .slice d.Back.A d.Back.n d.Back.c], ⟨0, 0, ⟨0, 0, ⟨none, 0, 0, []⟩⟩, ⟨0, 0, ⟨none, 0, 0, []⟩⟩, false, 0, 0, false, ⟨0, 0, false, false, false⟩, 0, 0, false, false, 0, 0, ⟨0, 0, false, false, false⟩, ⟨none, 0, 0, []⟩, 0, ⟨none, 0, 0, []⟩⟩, fun _ => rfl, fun x v h => by simp at h; rcases h with rfl | rfl | rfl | rfl | rfl | rfl | rfl | rfl | rfl | rfl | rfl | rfl | rfl | rfl | rfl | rfl | rfl | rfl | rfl | rfl | rfl | rfl | rfl | rfl | rfl | rfl | rfl | rfl | rfl | rfl | rfl <;> rfl, by decide⟩
abbrev cScr (d : ScrR) : List Value := [i64 d.W, i64 d.H, i64 d.Main.W, i64 d.Main.H, .slice d.Main.Cells.A d.Main.Cells.n d.Main.Cells.c, i64 d.Alt.W, i64 d.Alt.H, .slice d.Alt.Cells.A d.Alt.Cells.n d.Alt.Cells.c, .bool d.OnAlt, i64 d.X, i64 d.Y, .bool d.Wrap, i64 d.A.Fg, i64 d.A.Bg, .bool d.A.Bold, .bool d.A.Under, .bool d.A.Turn, i64 d.Top, i64 d.Bot, .bool d.NoWrap, .bool d.Hide, i64 d.SaveX, i64 d.SaveY, i64 d.SaveA.Fg, i64 d.SaveA.Bg, .bool d.SaveA.Bold, .bool d.SaveA.Under, .bool d.SaveA.Turn, .slice d.Tabs.A d.Tabs.n d.Tabs.c, i64 d.Limit, .slice d.Back.A d.Back.n d.Back.c]
abbrev oS (u_0 u_1 u_2 u_3 : Value) (d : ScrR) : Obj := Obj.cells (List.toArray (u_0 :: u_1 :: u_2 :: u_3 :: cScr d)) 35 (0, 0)
structure okScrR (B : Nat) (w : World) (x : ScrR) : Prop where
  Main : okGridR B w x.Main
  Alt : okGridR B w x.Alt
  Tabs : SlF encI w x.Tabs.A x.Tabs.n x.Tabs.xs
  Tabs_c : x.Tabs.n ≤ x.Tabs.c
  Tabs_n : x.Tabs.n ≤ B
  Back : SlN encRowR (okRowR B) w x.Back.A x.Back.n x.Back.xs
  Back_c : x.Back.n ≤ x.Back.c
  Back_n : x.Back.n ≤ B
structure sepScrR (T : List Nat) (x : ScrR) : Prop where
  Main : sepGridR T x.Main
  Alt : sepGridR T x.Alt
  Tabs : 0 < x.Tabs.n → (adr x.Tabs.A).block ∉ T
  Back : 0 < x.Back.n → (adr x.Back.A).block ∉ T
  Back_a : ∀ y, y ∈ x.Back.xs → sepRowR T y
theorem okScrR.st0 {B : Nat} {w0 w : World} {L : Hp} {x : ScrR} (h : okScrR B w0 x) (hs : St w0 [] L w) : okScrR B w x := ⟨okGridR.st0 h.Main hs, okGridR.st0 h.Alt hs, SlF.st0 h.Tabs hs, h.Tabs_c, h.Tabs_n, ⟨SlF.st0 h.Back.sl hs, fun y hy => okRowR.st0 (h.Back.all y hy) hs⟩, h.Back_c, h.Back_n⟩
theorem okScrR.st {B : Nat} {w0 w : World} {T : List Nat} {L : Hp} {x : ScrR} (h : okScrR B w0 x) (hs : St w0 T L w) (hp : sepScrR T x) : okScrR B w x := ⟨okGridR.st h.Main hs hp.Main, okGridR.st h.Alt hs hp.Alt, SlF.st h.Tabs hs hp.Tabs, h.Tabs_c, h.Tabs_n, ⟨SlF.st h.Back.sl hs hp.Back, fun y hy => okRowR.st (h.Back.all y hy) hs (hp.Back_a y hy)⟩, h.Back_c, h.Back_n⟩
theorem okScrR.le {B B' : Nat} {w : World} {x : ScrR} (h : okScrR B w x) (hB : B ≤ B') : okScrR B' w x := ⟨okGridR.le h.Main hB, okGridR.le h.Alt hB, h.Tabs, h.Tabs_c, Nat.le_trans h.Tabs_n hB, ⟨h.Back.sl, fun y hy => okRowR.le (h.Back.all y hy) hB⟩, h.Back_c, Nat.le_trans h.Back_n hB⟩
def ScrR.dat (x : ScrR) : ScrD := ⟨x.W, x.H, x.Main.dat, x.Alt.dat, x.OnAlt, x.X, x.Y, x.Wrap, x.A, x.Top, x.Bot, x.NoWrap, x.Hide, x.SaveX, x.SaveY, x.SaveA, x.Tabs.xs, x.Limit, x.Back.xs.map RowR.dat⟩
def smScr (B : Nat) (d : ScrD) : Prop := (smGrid B d.Main) ∧ (smGrid B d.Alt) ∧ (d.Tabs.length ≤ B) ∧ (d.Back.length ≤ B) ∧ (∀ y, y ∈ d.Back → smRow B y)
theorem okScrR.to {B B' : Nat} {w : World} {x : ScrR} (h : okScrR B w x) (h2 : smScr B' x.dat) : okScrR B' w x := ⟨h.Main.to h2.1, h.Alt.to h2.2.1, h.Tabs, h.Tabs_c, (by have := h.Tabs.len; have h3 := h2.2.2.1; simp only [smScr, ScrR.dat] at h3; omega), ⟨h.Back.sl, fun y hy => (h.Back.all y hy).to (h2.2.2.2.2 _ (List.mem_map_of_mem hy))⟩, h.Back_c, (by have := h.Back.sl.len; have h3 := h2.2.2.2.1; simp only [smScr, ScrR.dat, List.length_map] at h3; omega)⟩
def totScr (d : ScrD) : Nat := d.Main.Cells.length + d.Alt.Cells.length + d.Tabs.length + tots totRow d.Back
theorem totScr_sm {B : Nat} {d : ScrD} (h : totScr d ≤ B) : smScr B d := by
  simp only [totScr] at h
  unfold smScr
  exact ⟨(totGrid_sm (by simp only [totGrid]; omega)), (totGrid_sm (by simp only [totGrid]; omega)), (by omega), (by have := tots_len totRow d.Back; omega), (fun y hy => totRow_sm (by have := tots_mem (f := totRow) hy; omega))⟩
def ownScrR (x : ScrR) (L : Hp) : Prop := ∃ L1 L2 L3 L4, L = L1 ++ (L2 ++ (L3 ++ L4)) ∧ OwnF encCell 164 (.slice x.Main.Cells.A x.Main.Cells.n x.Main.Cells.c) x.Main.Cells.xs L1 ∧ OwnF encCell 164 (.slice x.Alt.Cells.A x.Alt.Cells.n x.Alt.Cells.c) x.Alt.Cells.xs L2 ∧ OwnF encI 3 (.slice x.Tabs.A x.Tabs.n x.Tabs.c) x.Tabs.xs L3 ∧ OwnN encRowR ownRowR 181 (.slice x.Back.A x.Back.n x.Back.c) x.Back.xs L4
theorem ownScrR.fold {w0 w : World} {T : List Nat} {L1 L2 L3 L4 R : Hp} (x : ScrR) (hs : St w0 T (L1 ++ (L2 ++ (L3 ++ (L4 ++ R)))) w) (o1 : OwnF encCell 164 (.slice x.Main.Cells.A x.Main.Cells.n x.Main.Cells.c) x.Main.Cells.xs L1) (o2 : OwnF encCell 164 (.slice x.Alt.Cells.A x.Alt.Cells.n x.Alt.Cells.c) x.Alt.Cells.xs L2) (o3 : OwnF encI 3 (.slice x.Tabs.A x.Tabs.n x.Tabs.c) x.Tabs.xs L3) (o4 : OwnN encRowR ownRowR 181 (.slice x.Back.A x.Back.n x.Back.c) x.Back.xs L4) : ∃ L, St w0 T (L ++ R) w ∧ ownScrR x L := ⟨L1 ++ (L2 ++ (L3 ++ L4)), by simpa only [List.append_assoc] using hs, L1, L2, L3, L4, rfl, o1, o2, o3, o4⟩
theorem ownScrR.fl {w0 w : World} {T : List Nat} {L1 L2 L3 L4 L S1 S2 S3 S4 : Hp} [k1 : Fr1 L1 L S1] [k2 : Fr1 L2 S1 S2] [k3 : Fr1 L3 S2 S3] [k4 : Fr1 L4 S3 S4] {A1 : Option Addr} {n1 c1 : Nat} {x1 : _} {A2 : Option Addr} {n2 c2 : Nat} {x2 : _} {A3 : Option Addr} {n3 c3 : Nat} {x3 : _} {A4 : Option Addr} {n4 c4 : Nat} {x4 : _} (hs : St w0 T L w) (o1 : OwnF encCell 164 (.slice A1 n1 c1) x1 L1) (o2 : OwnF encCell 164 (.slice A2 n2 c2) x2 L2) (o3 : OwnF encI 3 (.slice A3 n3 c3) x3 L3) (o4 : OwnN encRowR ownRowR 181 (.slice A4 n4 c4) x4 L4) : ∃ L', St w0 T (L' ++ S4) w ∧ ownScrR ⟨0, 0, ⟨0, 0, ⟨A1, n1, c1, x1⟩⟩, ⟨0, 0, ⟨A2, n2, c2, x2⟩⟩, false, 0, 0, false, ⟨0, 0, false, false, false⟩, 0, 0, false, false, 0, 0, ⟨0, 0, false, false, false⟩, ⟨A3, n3, c3, x3⟩, 0, ⟨A4, n4, c4, x4⟩⟩ L' := ⟨L1 ++ (L2 ++ (L3 ++ L4)), by simpa only [List.append_assoc] using hs.perm ((List.Perm.append_left L1 ((List.Perm.append_left L2 ((List.Perm.append_left L3 k4.pf).trans k3.pf)).trans k2.pf)).trans k1.pf), L1, L2, L3, L4, rfl, o1, o2, o3, o4⟩
theorem ownScrR.op {w0 w : World} {T : List Nat} {L LL R : Hp} {x : ScrR} [k : Fr1 LL L R] (hs : St w0 T L w) (h : ownScrR x LL) : ∃ L1 L2 L3 L4, St w0 T (L1 ++ (L2 ++ (L3 ++ (L4 ++ R)))) w ∧ OwnF encCell 164 (.slice x.Main.Cells.A x.Main.Cells.n x.Main.Cells.c) x.Main.Cells.xs L1 ∧ OwnF encCell 164 (.slice x.Alt.Cells.A x.Alt.Cells.n x.Alt.Cells.c) x.Alt.Cells.xs L2 ∧ OwnF encI 3 (.slice x.Tabs.A x.Tabs.n x.Tabs.c) x.Tabs.xs L3 ∧ OwnN encRowR ownRowR 181 (.slice x.Back.A x.Back.n x.Back.c) x.Back.xs L4 := by
  have hs := hs.fr LL
  obtain ⟨L1, L2, L3, L4, rfl, h⟩ := h
  exact ⟨L1, L2, L3, L4, by simpa only [List.append_assoc] using hs, h⟩
theorem ownScrR.ret {w w' : World} {K : List Nat} {L1 : Hp} {e : Ending} {D : ScrD} {v0 : Int} {v1 : Int} {v2 : Int} {v3 : Int} {A1 : Option Addr} {n1 c1 : Nat} {x1 : _} {v5 : Int} {v6 : Int} {A2 : Option Addr} {n2 c2 : Nat} {x2 : _} {v8 : Bool} {v9 : Int} {v10 : Int} {v11 : Bool} {v12 : Int} {v13 : Int} {v14 : Bool} {v15 : Bool} {v16 : Bool} {v17 : Int} {v18 : Int} {v19 : Bool} {v20 : Bool} {v21 : Int} {v22 : Int} {v23 : Int} {v24 : Int} {v25 : Bool} {v26 : Bool} {v27 : Bool} {A3 : Option Addr} {n3 c3 : Nat} {x3 : _} {v29 : Int} {A4 : Option Addr} {n4 c4 : Nat} {x4 : _} (he : e = .returned (.agg (List.toArray [i64 v0, i64 v1, i64 v2, i64 v3, .slice A1 n1 c1, i64 v5, i64 v6, .slice A2 n2 c2, .bool v8, i64 v9, i64 v10, .bool v11, i64 v12, i64 v13, .bool v14, .bool v15, .bool v16, i64 v17, i64 v18, .bool v19, .bool v20, i64 v21, i64 v22, i64 v23, i64 v24, .bool v25, .bool v26, .bool v27, .slice A3 n3 c3, i64 v29, .slice A4 n4 c4]))) (hs : St w K L1 w') (ho : ownScrR ⟨0, 0, ⟨0, 0, ⟨A1, n1, c1, x1⟩⟩, ⟨0, 0, ⟨A2, n2, c2, x2⟩⟩, false, 0, 0, false, ⟨0, 0, false, false, false⟩, 0, 0, false, false, 0, 0, ⟨0, 0, false, false, false⟩, ⟨A3, n3, c3, x3⟩, 0, ⟨A4, n4, c4, x4⟩⟩ L1) (hd : (⟨v0, v1, ⟨v2, v3, ⟨A1, n1, c1, x1⟩⟩, ⟨v5, v6, ⟨A2, n2, c2, x2⟩⟩, v8, v9, v10, v11, ⟨v12, v13, v14, v15, v16⟩, v17, v18, v19, v20, v21, v22, ⟨v23, v24, v25, v26, v27⟩, ⟨A3, n3, c3, x3⟩, v29, ⟨A4, n4, c4, x4⟩⟩ : ScrR).dat = D) : ∃ r L1, e = .returned (.agg (cScr r).toArray) ∧ St w K L1 w' ∧ ownScrR r L1 ∧ r.dat = D := ⟨⟨v0, v1, ⟨v2, v3, ⟨A1, n1, c1, x1⟩⟩, ⟨v5, v6, ⟨A2, n2, c2, x2⟩⟩, v8, v9, v10, v11, ⟨v12, v13, v14, v15, v16⟩, v17, v18, v19, v20, v21, v22, ⟨v23, v24, v25, v26, v27⟩, ⟨A3, n3, c3, x3⟩, v29, ⟨A4, n4, c4, x4⟩⟩, L1, he, hs, ho, hd⟩
theorem ownScrR.open_ {w0 w : World} {T : List Nat} {L R : Hp} {x : ScrR} (hs : St w0 T (L ++ R) w) (h : ownScrR x L) : ∃ L1 L2 L3 L4, St w0 T (L1 ++ (L2 ++ (L3 ++ (L4 ++ R)))) w ∧ OwnF encCell 164 (.slice x.Main.Cells.A x.Main.Cells.n x.Main.Cells.c) x.Main.Cells.xs L1 ∧ OwnF encCell 164 (.slice x.Alt.Cells.A x.Alt.Cells.n x.Alt.Cells.c) x.Alt.Cells.xs L2 ∧ OwnF encI 3 (.slice x.Tabs.A x.Tabs.n x.Tabs.c) x.Tabs.xs L3 ∧ OwnN encRowR ownRowR 181 (.slice x.Back.A x.Back.n x.Back.c) x.Back.xs L4 := by
  obtain ⟨L1, L2, L3, L4, rfl, h⟩ := h
  exact ⟨L1, L2, L3, L4, by simpa only [List.append_assoc] using hs, h⟩
theorem ownScrR.len {x : ScrR} {L : Hp} (h : ownScrR x L) : x.Main.Cells.xs.length = x.Main.Cells.n ∧ x.Alt.Cells.xs.length = x.Alt.Cells.n ∧ x.Tabs.xs.length = x.Tabs.n ∧ x.Back.xs.length = x.Back.n := by
  obtain ⟨L1, L2, L3, L4, rfl, o1, o2, o3, o4⟩ := h
  exact ⟨(OwnF.len_ o1), (OwnF.len_ o2), (OwnF.len_ o3), (OwnN.len_ o4)⟩
theorem ownScrR.ok {B : Nat} {w : World} {x : ScrR} {L : Hp} (h : ownScrR x L) (hh : ∀ p, p ∈ L → w.heap[p.1]? = some p.2) (h2 : smScr B x.dat) : okScrR B w x := by
  obtain ⟨L1, L2, L3, L4, rfl, o1, o2, o3, o4⟩ := h
  simp only [List.mem_append] at hh
  exact ⟨⟨SlF.ofOwn o1 (fun p hp => hh p (.inl hp)), OwnF.cap o1, (by have := OwnF.len_ o1; have h3 := h2.1; simp only [GridR.dat, ScrR.dat, smGrid, smScr] at h3; omega)⟩, ⟨SlF.ofOwn o2 (fun p hp => hh p (.inr (.inl hp))), OwnF.cap o2, (by have := OwnF.len_ o2; have h3 := h2.2.1; simp only [GridR.dat, ScrR.dat, smGrid, smScr] at h3; omega)⟩, SlF.ofOwn o3 (fun p hp => hh p (.inr (.inr (.inl hp)))), OwnF.cap o3, (by have := OwnF.len_ o3; have h3 := h2.2.2.1; simp only [GridR.dat, ScrR.dat, smGrid, smScr] at h3; omega), OwnN.ok o4 (fun p hp => hh p (.inr (.inr (.inr (hp))))) (fun y Li hy h3 hl => h3.ok hl (h2.2.2.2.2 _ (List.mem_map_of_mem hy))), OwnN.cap o4, (by have := OwnN.len_ o4; have h3 := h2.2.2.2.1; simp only [GridR.dat, ScrR.dat, smGrid, smScr, List.length_map] at h3; omega)⟩
structure TermR where
  P : VpR
  S : ScrR
def encTermR : Enc TermR := ⟨35, fun d => [i64 d.P.State, .bool d.P.Mark, .slice d.P.Args.A d.P.Args.n d.P.Args.c, .slice d.P.Part.A d.P.Part.n d.P.Part.c, i64 d.S.W, i64 d.S.H, i64 d.S.Main.W, i64 d.S.Main.H, .slice d.S.Main.Cells.A d.S.Main.Cells.n d.S.Main.Cells.c, i64 d.S.Alt.W, i64 d.S.Alt.H, .slice d.S.Alt.Cells.A d.S.Alt.Cells.n d.S.Alt.Cells.c, .bool d.S.OnAlt, i64 d.S.X, i64 d.S.Y, .bool d.S.Wrap, i64 d.S.A.Fg, i64 d.S.A.Bg, .bool d.S.A.Bold, .bool d.S.A.Under, .bool d.S.A.Turn, i64 d.S.Top, i64 d.S.Bot, .bool d.S.NoWrap, .bool d.S.Hide, i64 d.S.SaveX, i64 d.S.SaveY, i64 d.S.SaveA.Fg, i64 d.S.SaveA.Bg, .bool d.S.SaveA.Bold, .bool d.S.SaveA.Under, .bool d.S.SaveA.Turn, .slice d.S.Tabs.A d.S.Tabs.n d.S.Tabs.c, i64 d.S.Limit, .slice d.S.Back.A d.S.Back.n d.S.Back.c], ⟨⟨0, false, ⟨none, 0, 0, []⟩, ⟨none, 0, 0, []⟩⟩, ⟨0, 0, ⟨0, 0, ⟨none, 0, 0, []⟩⟩, ⟨0, 0, ⟨none, 0, 0, []⟩⟩, false, 0, 0, false, ⟨0, 0, false, false, false⟩, 0, 0, false, false, 0, 0, ⟨0, 0, false, false, false⟩, ⟨none, 0, 0, []⟩, 0, ⟨none, 0, 0, []⟩⟩⟩, fun _ => rfl, fun x v h => by simp at h; rcases h with rfl | rfl | rfl | rfl | rfl | rfl | rfl | rfl | rfl | rfl | rfl | rfl | rfl | rfl | rfl | rfl | rfl | rfl | rfl | rfl | rfl | rfl | rfl | rfl | rfl | rfl | rfl | rfl | rfl | rfl | rfl | rfl | rfl | rfl | rfl <;> rfl, by decide⟩
structure okTermR (B : Nat) (w : World) (x : TermR) : Prop where
  P : okVpR B w x.P
  S : okScrR B w x.S
structure sepTermR (T : List Nat) (x : TermR) : Prop where
  P : sepVpR T x.P
  S : sepScrR T x.S
theorem okTermR.st0 {B : Nat} {w0 w : World} {L : Hp} {x : TermR} (h : okTermR B w0 x) (hs : St w0 [] L w) : okTermR B w x := ⟨okVpR.st0 h.P hs, okScrR.st0 h.S hs⟩
theorem okTermR.st {B : Nat} {w0 w : World} {T : List Nat} {L : Hp} {x : TermR} (h : okTermR B w0 x) (hs : St w0 T L w) (hp : sepTermR T x) : okTermR B w x := ⟨okVpR.st h.P hs hp.P, okScrR.st h.S hs hp.S⟩
theorem okTermR.le {B B' : Nat} {w : World} {x : TermR} (h : okTermR B w x) (hB : B ≤ B') : okTermR B' w x := ⟨okVpR.le h.P hB, okScrR.le h.S hB⟩
def TermR.dat (x : TermR) : TermD := ⟨x.P.dat, x.S.dat⟩
def smTerm (B : Nat) (d : TermD) : Prop := (smVp B d.P) ∧ (smScr B d.S)
theorem okTermR.to {B B' : Nat} {w : World} {x : TermR} (h : okTermR B w x) (h2 : smTerm B' x.dat) : okTermR B' w x := ⟨h.P.to h2.1, h.S.to h2.2⟩
def totTerm (d : TermD) : Nat := d.P.Args.length + d.P.Part.length + d.S.Main.Cells.length + d.S.Alt.Cells.length + d.S.Tabs.length + tots totRow d.S.Back
theorem totTerm_sm {B : Nat} {d : TermD} (h : totTerm d ≤ B) : smTerm B d := by
  simp only [totTerm] at h
  unfold smTerm
  exact ⟨(totVp_sm (by simp only [totVp]; omega)), (totScr_sm (by simp only [totGrid, totScr]; omega))⟩
def ownTermR (x : TermR) (L : Hp) : Prop := ∃ L1 L2 L3 L4 L5 L6, L = L1 ++ (L2 ++ (L3 ++ (L4 ++ (L5 ++ L6)))) ∧ OwnF encI 3 (.slice x.P.Args.A x.P.Args.n x.P.Args.c) x.P.Args.xs L1 ∧ OwnF encB 5 (.slice x.P.Part.A x.P.Part.n x.P.Part.c) x.P.Part.xs L2 ∧ OwnF encCell 164 (.slice x.S.Main.Cells.A x.S.Main.Cells.n x.S.Main.Cells.c) x.S.Main.Cells.xs L3 ∧ OwnF encCell 164 (.slice x.S.Alt.Cells.A x.S.Alt.Cells.n x.S.Alt.Cells.c) x.S.Alt.Cells.xs L4 ∧ OwnF encI 3 (.slice x.S.Tabs.A x.S.Tabs.n x.S.Tabs.c) x.S.Tabs.xs L5 ∧ OwnN encRowR ownRowR 181 (.slice x.S.Back.A x.S.Back.n x.S.Back.c) x.S.Back.xs L6
theorem ownTermR.fold {w0 w : World} {T : List Nat} {L1 L2 L3 L4 L5 L6 R : Hp} (x : TermR) (hs : St w0 T (L1 ++ (L2 ++ (L3 ++ (L4 ++ (L5 ++ (L6 ++ R)))))) w) (o1 : OwnF encI 3 (.slice x.P.Args.A x.P.Args.n x.P.Args.c) x.P.Args.xs L1) (o2 : OwnF encB 5 (.slice x.P.Part.A x.P.Part.n x.P.Part.c) x.P.Part.xs L2) (o3 : OwnF encCell 164 (.slice x.S.Main.Cells.A x.S.Main.Cells.n x.S.Main.Cells.c) x.S.Main.Cells.xs L3) (o4 : OwnF encCell 164 (.slice x.S.Alt.Cells.A x.S.Alt.Cells.n x.S.Alt.Cells.c) x.S.Alt.Cells.xs L4) (o5 : OwnF encI 3 (.slice x.S.Tabs.A x.S.Tabs.n x.S.Tabs.c) x.S.Tabs.xs L5) (o6 : OwnN encRowR ownRowR 181 (.slice x.S.Back.A x.S.Back.n x.S.Back.c) x.S.Back.xs L6) : ∃ L, St w0 T (L ++ R) w ∧ ownTermR x L := ⟨L1 ++ (L2 ++ (L3 ++ (L4 ++ (L5 ++ L6)))), by simpa only [List.append_assoc] using hs, L1, L2, L3, L4, L5, L6, rfl, o1, o2, o3, o4, o5, o6⟩
theorem ownTermR.fl {w0 w : World} {T : List Nat} {L1 L2 L3 L4 L5 L6 L S1 S2 S3 S4 S5 S6 : Hp} [k1 : Fr1 L1 L S1] [k2 : Fr1 L2 S1 S2] [k3 : Fr1 L3 S2 S3] [k4 : Fr1 L4 S3 S4] [k5 : Fr1 L5 S4 S5] [k6 : Fr1 L6 S5 S6] {A1 : Option Addr} {n1 c1 : Nat} {x1 : _} {A2 : Option Addr} {n2 c2 : Nat} {x2 : _} {A3 : Option Addr} {n3 c3 : Nat} {x3 : _} {A4 : Option Addr} {n4 c4 : Nat} {x4 : _} {A5 : Option Addr} {n5 c5 : Nat} {x5 : _} {A6 : Option Addr} {n6 c6 : Nat} {x6 : _} (hs : St w0 T L w) (o1 : OwnF encI 3 (.slice A1 n1 c1) x1 L1) (o2 : OwnF encB 5 (.slice A2 n2 c2) x2 L2) (o3 : OwnF encCell 164 (.slice A3 n3 c3) x3 L3) (o4 : OwnF encCell 164 (.slice A4 n4 c4) x4 L4) (o5 : OwnF encI 3 (.slice A5 n5 c5) x5 L5) (o6 : OwnN encRowR ownRowR 181 (.slice A6 n6 c6) x6 L6) : ∃ L', St w0 T (L' ++ S6) w ∧ ownTermR ⟨⟨0, false, ⟨A1, n1, c1, x1⟩, ⟨A2, n2, c2, x2⟩⟩, ⟨0, 0, ⟨0, 0, ⟨A3, n3, c3, x3⟩⟩, ⟨0, 0, ⟨A4, n4, c4, x4⟩⟩, false, 0, 0, false, ⟨0, 0, false, false, false⟩, 0, 0, false, false, 0, 0, ⟨0, 0, false, false, false⟩, ⟨A5, n5, c5, x5⟩, 0, ⟨A6, n6, c6, x6⟩⟩⟩ L' := ⟨L1 ++ (L2 ++ (L3 ++ (L4 ++ (L5 ++ L6)))), by simpa only [List.append_assoc] using hs.perm ((List.Perm.append_left L1 ((List.Perm.append_left L2 ((List.Perm.append_left L3 ((List.Perm.append_left L4 ((List.Perm.append_left L5 k6.pf).trans k5.pf)).trans k4.pf)).trans k3.pf)).trans k2.pf)).trans k1.pf), L1, L2, L3, L4, L5, L6, rfl, o1, o2, o3, o4, o5, o6⟩
theorem ownTermR.op {w0 w : World} {T : List Nat} {L LL R : Hp} {x : TermR} [k : Fr1 LL L R] (hs : St w0 T L w) (h : ownTermR x LL) : ∃ L1 L2 L3 L4 L5 L6, St w0 T (L1 ++ (L2 ++ (L3 ++ (L4 ++ (L5 ++ (L6 ++ R)))))) w ∧ OwnF encI 3 (.slice x.P.Args.A x.P.Args.n x.P.Args.c) x.P.Args.xs L1 ∧ OwnF encB 5 (.slice x.P.Part.A x.P.Part.n x.P.Part.c) x.P.Part.xs L2 ∧ OwnF encCell 164 (.slice x.S.Main.Cells.A x.S.Main.Cells.n x.S.Main.Cells.c) x.S.Main.Cells.xs L3 ∧ OwnF encCell 164 (.slice x.S.Alt.Cells.A x.S.Alt.Cells.n x.S.Alt.Cells.c) x.S.Alt.Cells.xs L4 ∧ OwnF encI 3 (.slice x.S.Tabs.A x.S.Tabs.n x.S.Tabs.c) x.S.Tabs.xs L5 ∧ OwnN encRowR ownRowR 181 (.slice x.S.Back.A x.S.Back.n x.S.Back.c) x.S.Back.xs L6 := by
  have hs := hs.fr LL
  obtain ⟨L1, L2, L3, L4, L5, L6, rfl, h⟩ := h
  exact ⟨L1, L2, L3, L4, L5, L6, by simpa only [List.append_assoc] using hs, h⟩
theorem ownTermR.ret {w w' : World} {K : List Nat} {L1 : Hp} {e : Ending} {D : TermD} {v0 : Int} {v1 : Bool} {A1 : Option Addr} {n1 c1 : Nat} {x1 : _} {A2 : Option Addr} {n2 c2 : Nat} {x2 : _} {v4 : Int} {v5 : Int} {v6 : Int} {v7 : Int} {A3 : Option Addr} {n3 c3 : Nat} {x3 : _} {v9 : Int} {v10 : Int} {A4 : Option Addr} {n4 c4 : Nat} {x4 : _} {v12 : Bool} {v13 : Int} {v14 : Int} {v15 : Bool} {v16 : Int} {v17 : Int} {v18 : Bool} {v19 : Bool} {v20 : Bool} {v21 : Int} {v22 : Int} {v23 : Bool} {v24 : Bool} {v25 : Int} {v26 : Int} {v27 : Int} {v28 : Int} {v29 : Bool} {v30 : Bool} {v31 : Bool} {A5 : Option Addr} {n5 c5 : Nat} {x5 : _} {v33 : Int} {A6 : Option Addr} {n6 c6 : Nat} {x6 : _} (he : e = .returned (.agg (List.toArray [i64 v0, .bool v1, .slice A1 n1 c1, .slice A2 n2 c2, i64 v4, i64 v5, i64 v6, i64 v7, .slice A3 n3 c3, i64 v9, i64 v10, .slice A4 n4 c4, .bool v12, i64 v13, i64 v14, .bool v15, i64 v16, i64 v17, .bool v18, .bool v19, .bool v20, i64 v21, i64 v22, .bool v23, .bool v24, i64 v25, i64 v26, i64 v27, i64 v28, .bool v29, .bool v30, .bool v31, .slice A5 n5 c5, i64 v33, .slice A6 n6 c6]))) (hs : St w K L1 w') (ho : ownTermR ⟨⟨0, false, ⟨A1, n1, c1, x1⟩, ⟨A2, n2, c2, x2⟩⟩, ⟨0, 0, ⟨0, 0, ⟨A3, n3, c3, x3⟩⟩, ⟨0, 0, ⟨A4, n4, c4, x4⟩⟩, false, 0, 0, false, ⟨0, 0, false, false, false⟩, 0, 0, false, false, 0, 0, ⟨0, 0, false, false, false⟩, ⟨A5, n5, c5, x5⟩, 0, ⟨A6, n6, c6, x6⟩⟩⟩ L1) (hd : (⟨⟨v0, v1, ⟨A1, n1, c1, x1⟩, ⟨A2, n2, c2, x2⟩⟩, ⟨v4, v5, ⟨v6, v7, ⟨A3, n3, c3, x3⟩⟩, ⟨v9, v10, ⟨A4, n4, c4, x4⟩⟩, v12, v13, v14, v15, ⟨v16, v17, v18, v19, v20⟩, v21, v22, v23, v24, v25, v26, ⟨v27, v28, v29, v30, v31⟩, ⟨A5, n5, c5, x5⟩, v33, ⟨A6, n6, c6, x6⟩⟩⟩ : TermR).dat = D) : ∃ r L1, e = .returned (.agg #[i64 r.P.State, .bool r.P.Mark, .slice r.P.Args.A r.P.Args.n r.P.Args.c, .slice r.P.Part.A r.P.Part.n r.P.Part.c, i64 r.S.W, i64 r.S.H, i64 r.S.Main.W, i64 r.S.Main.H, .slice r.S.Main.Cells.A r.S.Main.Cells.n r.S.Main.Cells.c, i64 r.S.Alt.W, i64 r.S.Alt.H, .slice r.S.Alt.Cells.A r.S.Alt.Cells.n r.S.Alt.Cells.c, .bool r.S.OnAlt, i64 r.S.X, i64 r.S.Y, .bool r.S.Wrap, i64 r.S.A.Fg, i64 r.S.A.Bg, .bool r.S.A.Bold, .bool r.S.A.Under, .bool r.S.A.Turn, i64 r.S.Top, i64 r.S.Bot, .bool r.S.NoWrap, .bool r.S.Hide, i64 r.S.SaveX, i64 r.S.SaveY, i64 r.S.SaveA.Fg, i64 r.S.SaveA.Bg, .bool r.S.SaveA.Bold, .bool r.S.SaveA.Under, .bool r.S.SaveA.Turn, .slice r.S.Tabs.A r.S.Tabs.n r.S.Tabs.c, i64 r.S.Limit, .slice r.S.Back.A r.S.Back.n r.S.Back.c]) ∧ St w K L1 w' ∧ ownTermR r L1 ∧ r.dat = D := ⟨⟨⟨v0, v1, ⟨A1, n1, c1, x1⟩, ⟨A2, n2, c2, x2⟩⟩, ⟨v4, v5, ⟨v6, v7, ⟨A3, n3, c3, x3⟩⟩, ⟨v9, v10, ⟨A4, n4, c4, x4⟩⟩, v12, v13, v14, v15, ⟨v16, v17, v18, v19, v20⟩, v21, v22, v23, v24, v25, v26, ⟨v27, v28, v29, v30, v31⟩, ⟨A5, n5, c5, x5⟩, v33, ⟨A6, n6, c6, x6⟩⟩⟩, L1, he, hs, ho, hd⟩
theorem ownTermR.open_ {w0 w : World} {T : List Nat} {L R : Hp} {x : TermR} (hs : St w0 T (L ++ R) w) (h : ownTermR x L) : ∃ L1 L2 L3 L4 L5 L6, St w0 T (L1 ++ (L2 ++ (L3 ++ (L4 ++ (L5 ++ (L6 ++ R)))))) w ∧ OwnF encI 3 (.slice x.P.Args.A x.P.Args.n x.P.Args.c) x.P.Args.xs L1 ∧ OwnF encB 5 (.slice x.P.Part.A x.P.Part.n x.P.Part.c) x.P.Part.xs L2 ∧ OwnF encCell 164 (.slice x.S.Main.Cells.A x.S.Main.Cells.n x.S.Main.Cells.c) x.S.Main.Cells.xs L3 ∧ OwnF encCell 164 (.slice x.S.Alt.Cells.A x.S.Alt.Cells.n x.S.Alt.Cells.c) x.S.Alt.Cells.xs L4 ∧ OwnF encI 3 (.slice x.S.Tabs.A x.S.Tabs.n x.S.Tabs.c) x.S.Tabs.xs L5 ∧ OwnN encRowR ownRowR 181 (.slice x.S.Back.A x.S.Back.n x.S.Back.c) x.S.Back.xs L6 := by
  obtain ⟨L1, L2, L3, L4, L5, L6, rfl, h⟩ := h
  exact ⟨L1, L2, L3, L4, L5, L6, by simpa only [List.append_assoc] using hs, h⟩
theorem ownTermR.len {x : TermR} {L : Hp} (h : ownTermR x L) : x.P.Args.xs.length = x.P.Args.n ∧ x.P.Part.xs.length = x.P.Part.n ∧ x.S.Main.Cells.xs.length = x.S.Main.Cells.n ∧ x.S.Alt.Cells.xs.length = x.S.Alt.Cells.n ∧ x.S.Tabs.xs.length = x.S.Tabs.n ∧ x.S.Back.xs.length = x.S.Back.n := by
  obtain ⟨L1, L2, L3, L4, L5, L6, rfl, o1, o2, o3, o4, o5, o6⟩ := h
  exact ⟨(OwnF.len_ o1), (OwnF.len_ o2), (OwnF.len_ o3), (OwnF.len_ o4), (OwnF.len_ o5), (OwnN.len_ o6)⟩
theorem ownTermR.ok {B : Nat} {w : World} {x : TermR} {L : Hp} (h : ownTermR x L) (hh : ∀ p, p ∈ L → w.heap[p.1]? = some p.2) (h2 : smTerm B x.dat) : okTermR B w x := by
  obtain ⟨L1, L2, L3, L4, L5, L6, rfl, o1, o2, o3, o4, o5, o6⟩ := h
  simp only [List.mem_append] at hh
  exact ⟨⟨SlF.ofOwn o1 (fun p hp => hh p (.inl hp)), OwnF.cap o1, (by have := OwnF.len_ o1; have h3 := h2.1.1; simp only [GridR.dat, ScrR.dat, TermR.dat, VpR.dat, smGrid, smScr, smTerm, smVp] at h3; omega), SlF.ofOwn o2 (fun p hp => hh p (.inr (.inl hp))), OwnF.cap o2, (by have := OwnF.len_ o2; have h3 := h2.1.2; simp only [GridR.dat, ScrR.dat, TermR.dat, VpR.dat, smGrid, smScr, smTerm, smVp] at h3; omega)⟩, ⟨⟨SlF.ofOwn o3 (fun p hp => hh p (.inr (.inr (.inl hp)))), OwnF.cap o3, (by have := OwnF.len_ o3; have h3 := h2.2.1; simp only [GridR.dat, ScrR.dat, TermR.dat, VpR.dat, smGrid, smScr, smTerm, smVp] at h3; omega)⟩, ⟨SlF.ofOwn o4 (fun p hp => hh p (.inr (.inr (.inr (.inl hp))))), OwnF.cap o4, (by have := OwnF.len_ o4; have h3 := h2.2.2.1; simp only [GridR.dat, ScrR.dat, TermR.dat, VpR.dat, smGrid, smScr, smTerm, smVp] at h3; omega)⟩, SlF.ofOwn o5 (fun p hp => hh p (.inr (.inr (.inr (.inr (.inl hp)))))), OwnF.cap o5, (by have := OwnF.len_ o5; have h3 := h2.2.2.2.1; simp only [GridR.dat, ScrR.dat, TermR.dat, VpR.dat, smGrid, smScr, smTerm, smVp] at h3; omega), OwnN.ok o6 (fun p hp => hh p (.inr (.inr (.inr (.inr (.inr (hp))))))) (fun y Li hy h3 hl => h3.ok hl (h2.2.2.2.2.2 _ (List.mem_map_of_mem hy))), OwnN.cap o6, (by have := OwnN.len_ o6; have h3 := h2.2.2.2.2.1; simp only [GridR.dat, ScrR.dat, TermR.dat, VpR.dat, smGrid, smScr, smTerm, smVp, List.length_map] at h3; omega)⟩⟩
structure PaneR where
  Id : Int
  Cmd : ByteArray
  Dir : ByteArray
  Life : Int
  Code : Int
  Pid : Int
  Term : TermR
def encPaneR : Enc PaneR := ⟨41, fun d => [i64 d.Id, .string d.Cmd, .string d.Dir, i64 d.Life, i64 d.Code, i64 d.Pid, i64 d.Term.P.State, .bool d.Term.P.Mark, .slice d.Term.P.Args.A d.Term.P.Args.n d.Term.P.Args.c, .slice d.Term.P.Part.A d.Term.P.Part.n d.Term.P.Part.c, i64 d.Term.S.W, i64 d.Term.S.H, i64 d.Term.S.Main.W, i64 d.Term.S.Main.H, .slice d.Term.S.Main.Cells.A d.Term.S.Main.Cells.n d.Term.S.Main.Cells.c, i64 d.Term.S.Alt.W, i64 d.Term.S.Alt.H, .slice d.Term.S.Alt.Cells.A d.Term.S.Alt.Cells.n d.Term.S.Alt.Cells.c, .bool d.Term.S.OnAlt, i64 d.Term.S.X, i64 d.Term.S.Y, .bool d.Term.S.Wrap, i64 d.Term.S.A.Fg, i64 d.Term.S.A.Bg, .bool d.Term.S.A.Bold, .bool d.Term.S.A.Under, .bool d.Term.S.A.Turn, i64 d.Term.S.Top, i64 d.Term.S.Bot, .bool d.Term.S.NoWrap, .bool d.Term.S.Hide, i64 d.Term.S.SaveX, i64 d.Term.S.SaveY, i64 d.Term.S.SaveA.Fg, i64 d.Term.S.SaveA.Bg, .bool d.Term.S.SaveA.Bold, .bool d.Term.S.SaveA.Under, .bool d.Term.S.SaveA.Turn, .slice d.Term.S.Tabs.A d.Term.S.Tabs.n d.Term.S.Tabs.c, i64 d.Term.S.Limit, .slice d.Term.S.Back.A d.Term.S.Back.n d.Term.S.Back.c], ⟨0, { data := #[] }, { data := #[] }, 0, 0, 0, ⟨⟨0, false, ⟨none, 0, 0, []⟩, ⟨none, 0, 0, []⟩⟩, ⟨0, 0, ⟨0, 0, ⟨none, 0, 0, []⟩⟩, ⟨0, 0, ⟨none, 0, 0, []⟩⟩, false, 0, 0, false, ⟨0, 0, false, false, false⟩, 0, 0, false, false, 0, 0, ⟨0, 0, false, false, false⟩, ⟨none, 0, 0, []⟩, 0, ⟨none, 0, 0, []⟩⟩⟩⟩, fun _ => rfl, fun x v h => by simp at h; rcases h with rfl | rfl | rfl | rfl | rfl | rfl | rfl | rfl | rfl | rfl | rfl | rfl | rfl | rfl | rfl | rfl | rfl | rfl | rfl | rfl | rfl | rfl | rfl | rfl | rfl | rfl | rfl | rfl | rfl | rfl | rfl | rfl | rfl | rfl | rfl | rfl | rfl | rfl | rfl | rfl | rfl <;> rfl, by decide⟩
structure okPaneR (B : Nat) (w : World) (x : PaneR) : Prop where
  Cmd_z : x.Cmd.size ≤ B
  Dir_z : x.Dir.size ≤ B
  Term : okTermR B w x.Term
structure sepPaneR (T : List Nat) (x : PaneR) : Prop where
  Term : sepTermR T x.Term
theorem okPaneR.st0 {B : Nat} {w0 w : World} {L : Hp} {x : PaneR} (h : okPaneR B w0 x) (hs : St w0 [] L w) : okPaneR B w x := ⟨h.Cmd_z, h.Dir_z, okTermR.st0 h.Term hs⟩
theorem okPaneR.st {B : Nat} {w0 w : World} {T : List Nat} {L : Hp} {x : PaneR} (h : okPaneR B w0 x) (hs : St w0 T L w) (hp : sepPaneR T x) : okPaneR B w x := ⟨h.Cmd_z, h.Dir_z, okTermR.st h.Term hs hp.Term⟩
theorem okPaneR.le {B B' : Nat} {w : World} {x : PaneR} (h : okPaneR B w x) (hB : B ≤ B') : okPaneR B' w x := ⟨Nat.le_trans h.Cmd_z hB, Nat.le_trans h.Dir_z hB, okTermR.le h.Term hB⟩
def PaneR.dat (x : PaneR) : PaneD := ⟨x.Id, x.Cmd, x.Dir, x.Life, x.Code, x.Pid, x.Term.dat⟩
def smPane (B : Nat) (d : PaneD) : Prop := (d.Cmd.size ≤ B) ∧ (d.Dir.size ≤ B) ∧ (smTerm B d.Term)
theorem okPaneR.to {B B' : Nat} {w : World} {x : PaneR} (h : okPaneR B w x) (h2 : smPane B' x.dat) : okPaneR B' w x := ⟨h2.1, h2.2.1, h.Term.to h2.2.2⟩
def totPane (d : PaneD) : Nat := d.Cmd.size + d.Dir.size + d.Term.P.Args.length + d.Term.P.Part.length + d.Term.S.Main.Cells.length + d.Term.S.Alt.Cells.length + d.Term.S.Tabs.length + tots totRow d.Term.S.Back
theorem totPane_sm {B : Nat} {d : PaneD} (h : totPane d ≤ B) : smPane B d := by
  simp only [totPane] at h
  unfold smPane
  exact ⟨(by omega), (by omega), (totTerm_sm (by simp only [totGrid, totScr, totTerm, totVp]; omega))⟩
def ownPaneR (x : PaneR) (L : Hp) : Prop := ∃ L1 L2 L3 L4 L5 L6, L = L1 ++ (L2 ++ (L3 ++ (L4 ++ (L5 ++ L6)))) ∧ OwnF encI 3 (.slice x.Term.P.Args.A x.Term.P.Args.n x.Term.P.Args.c) x.Term.P.Args.xs L1 ∧ OwnF encB 5 (.slice x.Term.P.Part.A x.Term.P.Part.n x.Term.P.Part.c) x.Term.P.Part.xs L2 ∧ OwnF encCell 164 (.slice x.Term.S.Main.Cells.A x.Term.S.Main.Cells.n x.Term.S.Main.Cells.c) x.Term.S.Main.Cells.xs L3 ∧ OwnF encCell 164 (.slice x.Term.S.Alt.Cells.A x.Term.S.Alt.Cells.n x.Term.S.Alt.Cells.c) x.Term.S.Alt.Cells.xs L4 ∧ OwnF encI 3 (.slice x.Term.S.Tabs.A x.Term.S.Tabs.n x.Term.S.Tabs.c) x.Term.S.Tabs.xs L5 ∧ OwnN encRowR ownRowR 181 (.slice x.Term.S.Back.A x.Term.S.Back.n x.Term.S.Back.c) x.Term.S.Back.xs L6
theorem ownPaneR.fold {w0 w : World} {T : List Nat} {L1 L2 L3 L4 L5 L6 R : Hp} (x : PaneR) (hs : St w0 T (L1 ++ (L2 ++ (L3 ++ (L4 ++ (L5 ++ (L6 ++ R)))))) w) (o1 : OwnF encI 3 (.slice x.Term.P.Args.A x.Term.P.Args.n x.Term.P.Args.c) x.Term.P.Args.xs L1) (o2 : OwnF encB 5 (.slice x.Term.P.Part.A x.Term.P.Part.n x.Term.P.Part.c) x.Term.P.Part.xs L2) (o3 : OwnF encCell 164 (.slice x.Term.S.Main.Cells.A x.Term.S.Main.Cells.n x.Term.S.Main.Cells.c) x.Term.S.Main.Cells.xs L3) (o4 : OwnF encCell 164 (.slice x.Term.S.Alt.Cells.A x.Term.S.Alt.Cells.n x.Term.S.Alt.Cells.c) x.Term.S.Alt.Cells.xs L4) (o5 : OwnF encI 3 (.slice x.Term.S.Tabs.A x.Term.S.Tabs.n x.Term.S.Tabs.c) x.Term.S.Tabs.xs L5) (o6 : OwnN encRowR ownRowR 181 (.slice x.Term.S.Back.A x.Term.S.Back.n x.Term.S.Back.c) x.Term.S.Back.xs L6) : ∃ L, St w0 T (L ++ R) w ∧ ownPaneR x L := ⟨L1 ++ (L2 ++ (L3 ++ (L4 ++ (L5 ++ L6)))), by simpa only [List.append_assoc] using hs, L1, L2, L3, L4, L5, L6, rfl, o1, o2, o3, o4, o5, o6⟩
theorem ownPaneR.fl {w0 w : World} {T : List Nat} {L1 L2 L3 L4 L5 L6 L S1 S2 S3 S4 S5 S6 : Hp} [k1 : Fr1 L1 L S1] [k2 : Fr1 L2 S1 S2] [k3 : Fr1 L3 S2 S3] [k4 : Fr1 L4 S3 S4] [k5 : Fr1 L5 S4 S5] [k6 : Fr1 L6 S5 S6] {A1 : Option Addr} {n1 c1 : Nat} {x1 : _} {A2 : Option Addr} {n2 c2 : Nat} {x2 : _} {A3 : Option Addr} {n3 c3 : Nat} {x3 : _} {A4 : Option Addr} {n4 c4 : Nat} {x4 : _} {A5 : Option Addr} {n5 c5 : Nat} {x5 : _} {A6 : Option Addr} {n6 c6 : Nat} {x6 : _} (hs : St w0 T L w) (o1 : OwnF encI 3 (.slice A1 n1 c1) x1 L1) (o2 : OwnF encB 5 (.slice A2 n2 c2) x2 L2) (o3 : OwnF encCell 164 (.slice A3 n3 c3) x3 L3) (o4 : OwnF encCell 164 (.slice A4 n4 c4) x4 L4) (o5 : OwnF encI 3 (.slice A5 n5 c5) x5 L5) (o6 : OwnN encRowR ownRowR 181 (.slice A6 n6 c6) x6 L6) : ∃ L', St w0 T (L' ++ S6) w ∧ ownPaneR ⟨0, { data := #[] }, { data := #[] }, 0, 0, 0, ⟨⟨0, false, ⟨A1, n1, c1, x1⟩, ⟨A2, n2, c2, x2⟩⟩, ⟨0, 0, ⟨0, 0, ⟨A3, n3, c3, x3⟩⟩, ⟨0, 0, ⟨A4, n4, c4, x4⟩⟩, false, 0, 0, false, ⟨0, 0, false, false, false⟩, 0, 0, false, false, 0, 0, ⟨0, 0, false, false, false⟩, ⟨A5, n5, c5, x5⟩, 0, ⟨A6, n6, c6, x6⟩⟩⟩⟩ L' := ⟨L1 ++ (L2 ++ (L3 ++ (L4 ++ (L5 ++ L6)))), by simpa only [List.append_assoc] using hs.perm ((List.Perm.append_left L1 ((List.Perm.append_left L2 ((List.Perm.append_left L3 ((List.Perm.append_left L4 ((List.Perm.append_left L5 k6.pf).trans k5.pf)).trans k4.pf)).trans k3.pf)).trans k2.pf)).trans k1.pf), L1, L2, L3, L4, L5, L6, rfl, o1, o2, o3, o4, o5, o6⟩
theorem ownPaneR.op {w0 w : World} {T : List Nat} {L LL R : Hp} {x : PaneR} [k : Fr1 LL L R] (hs : St w0 T L w) (h : ownPaneR x LL) : ∃ L1 L2 L3 L4 L5 L6, St w0 T (L1 ++ (L2 ++ (L3 ++ (L4 ++ (L5 ++ (L6 ++ R)))))) w ∧ OwnF encI 3 (.slice x.Term.P.Args.A x.Term.P.Args.n x.Term.P.Args.c) x.Term.P.Args.xs L1 ∧ OwnF encB 5 (.slice x.Term.P.Part.A x.Term.P.Part.n x.Term.P.Part.c) x.Term.P.Part.xs L2 ∧ OwnF encCell 164 (.slice x.Term.S.Main.Cells.A x.Term.S.Main.Cells.n x.Term.S.Main.Cells.c) x.Term.S.Main.Cells.xs L3 ∧ OwnF encCell 164 (.slice x.Term.S.Alt.Cells.A x.Term.S.Alt.Cells.n x.Term.S.Alt.Cells.c) x.Term.S.Alt.Cells.xs L4 ∧ OwnF encI 3 (.slice x.Term.S.Tabs.A x.Term.S.Tabs.n x.Term.S.Tabs.c) x.Term.S.Tabs.xs L5 ∧ OwnN encRowR ownRowR 181 (.slice x.Term.S.Back.A x.Term.S.Back.n x.Term.S.Back.c) x.Term.S.Back.xs L6 := by
  have hs := hs.fr LL
  obtain ⟨L1, L2, L3, L4, L5, L6, rfl, h⟩ := h
  exact ⟨L1, L2, L3, L4, L5, L6, by simpa only [List.append_assoc] using hs, h⟩
theorem ownPaneR.open_ {w0 w : World} {T : List Nat} {L R : Hp} {x : PaneR} (hs : St w0 T (L ++ R) w) (h : ownPaneR x L) : ∃ L1 L2 L3 L4 L5 L6, St w0 T (L1 ++ (L2 ++ (L3 ++ (L4 ++ (L5 ++ (L6 ++ R)))))) w ∧ OwnF encI 3 (.slice x.Term.P.Args.A x.Term.P.Args.n x.Term.P.Args.c) x.Term.P.Args.xs L1 ∧ OwnF encB 5 (.slice x.Term.P.Part.A x.Term.P.Part.n x.Term.P.Part.c) x.Term.P.Part.xs L2 ∧ OwnF encCell 164 (.slice x.Term.S.Main.Cells.A x.Term.S.Main.Cells.n x.Term.S.Main.Cells.c) x.Term.S.Main.Cells.xs L3 ∧ OwnF encCell 164 (.slice x.Term.S.Alt.Cells.A x.Term.S.Alt.Cells.n x.Term.S.Alt.Cells.c) x.Term.S.Alt.Cells.xs L4 ∧ OwnF encI 3 (.slice x.Term.S.Tabs.A x.Term.S.Tabs.n x.Term.S.Tabs.c) x.Term.S.Tabs.xs L5 ∧ OwnN encRowR ownRowR 181 (.slice x.Term.S.Back.A x.Term.S.Back.n x.Term.S.Back.c) x.Term.S.Back.xs L6 := by
  obtain ⟨L1, L2, L3, L4, L5, L6, rfl, h⟩ := h
  exact ⟨L1, L2, L3, L4, L5, L6, by simpa only [List.append_assoc] using hs, h⟩
theorem ownPaneR.len {x : PaneR} {L : Hp} (h : ownPaneR x L) : x.Term.P.Args.xs.length = x.Term.P.Args.n ∧ x.Term.P.Part.xs.length = x.Term.P.Part.n ∧ x.Term.S.Main.Cells.xs.length = x.Term.S.Main.Cells.n ∧ x.Term.S.Alt.Cells.xs.length = x.Term.S.Alt.Cells.n ∧ x.Term.S.Tabs.xs.length = x.Term.S.Tabs.n ∧ x.Term.S.Back.xs.length = x.Term.S.Back.n := by
  obtain ⟨L1, L2, L3, L4, L5, L6, rfl, o1, o2, o3, o4, o5, o6⟩ := h
  exact ⟨(OwnF.len_ o1), (OwnF.len_ o2), (OwnF.len_ o3), (OwnF.len_ o4), (OwnF.len_ o5), (OwnN.len_ o6)⟩
theorem ownPaneR.ok {B : Nat} {w : World} {x : PaneR} {L : Hp} (h : ownPaneR x L) (hh : ∀ p, p ∈ L → w.heap[p.1]? = some p.2) (h2 : smPane B x.dat) : okPaneR B w x := by
  obtain ⟨L1, L2, L3, L4, L5, L6, rfl, o1, o2, o3, o4, o5, o6⟩ := h
  simp only [List.mem_append] at hh
  exact ⟨(h2.1), (h2.2.1), ⟨⟨SlF.ofOwn o1 (fun p hp => hh p (.inl hp)), OwnF.cap o1, (by have := OwnF.len_ o1; have h3 := h2.2.2.1.1; simp only [GridR.dat, PaneR.dat, ScrR.dat, TermR.dat, VpR.dat, smGrid, smPane, smScr, smTerm, smVp] at h3; omega), SlF.ofOwn o2 (fun p hp => hh p (.inr (.inl hp))), OwnF.cap o2, (by have := OwnF.len_ o2; have h3 := h2.2.2.1.2; simp only [GridR.dat, PaneR.dat, ScrR.dat, TermR.dat, VpR.dat, smGrid, smPane, smScr, smTerm, smVp] at h3; omega)⟩, ⟨⟨SlF.ofOwn o3 (fun p hp => hh p (.inr (.inr (.inl hp)))), OwnF.cap o3, (by have := OwnF.len_ o3; have h3 := h2.2.2.2.1; simp only [GridR.dat, PaneR.dat, ScrR.dat, TermR.dat, VpR.dat, smGrid, smPane, smScr, smTerm, smVp] at h3; omega)⟩, ⟨SlF.ofOwn o4 (fun p hp => hh p (.inr (.inr (.inr (.inl hp))))), OwnF.cap o4, (by have := OwnF.len_ o4; have h3 := h2.2.2.2.2.1; simp only [GridR.dat, PaneR.dat, ScrR.dat, TermR.dat, VpR.dat, smGrid, smPane, smScr, smTerm, smVp] at h3; omega)⟩, SlF.ofOwn o5 (fun p hp => hh p (.inr (.inr (.inr (.inr (.inl hp)))))), OwnF.cap o5, (by have := OwnF.len_ o5; have h3 := h2.2.2.2.2.2.1; simp only [GridR.dat, PaneR.dat, ScrR.dat, TermR.dat, VpR.dat, smGrid, smPane, smScr, smTerm, smVp] at h3; omega), OwnN.ok o6 (fun p hp => hh p (.inr (.inr (.inr (.inr (.inr (hp))))))) (fun y Li hy h3 hl => h3.ok hl (h2.2.2.2.2.2.2.2 _ (List.mem_map_of_mem hy))), OwnN.cap o6, (by have := OwnN.len_ o6; have h3 := h2.2.2.2.2.2.2.1; simp only [GridR.dat, PaneR.dat, ScrR.dat, TermR.dat, VpR.dat, smGrid, smPane, smScr, smTerm, smVp, List.length_map] at h3; omega)⟩⟩⟩
def mkEPane (k : Int) (x : PaneR) : PaneR := ⟨k, markText (k + 1), markText ((k + 1) + 1), (((k + 1) + 1) + 1), ((((k + 1) + 1) + 1) + 1), (((((k + 1) + 1) + 1) + 1) + 1), ⟨⟨((((((k + 1) + 1) + 1) + 1) + 1) + 1), decide ((((((((k + 1) + 1) + 1) + 1) + 1) + 1) + 1) % 3 = 0), { x.Term.P.Args with xs := marks (fun k => k) 1 ((((((((k + 1) + 1) + 1) + 1) + 1) + 1) + 1) + 1) x.Term.P.Args.xs.length }, { x.Term.P.Part with xs := marks ub 1 (((((((((k + 1) + 1) + 1) + 1) + 1) + 1) + 1) + 1) + 1 * (x.Term.P.Args.xs.length : Int)) x.Term.P.Part.xs.length }⟩, ⟨((((((((((k + 1) + 1) + 1) + 1) + 1) + 1) + 1) + 1) + 1 * (x.Term.P.Args.xs.length : Int)) + 1 * (x.Term.P.Part.xs.length : Int)), (((((((((((k + 1) + 1) + 1) + 1) + 1) + 1) + 1) + 1) + 1 * (x.Term.P.Args.xs.length : Int)) + 1 * (x.Term.P.Part.xs.length : Int)) + 1), ⟨((((((((((((k + 1) + 1) + 1) + 1) + 1) + 1) + 1) + 1) + 1 * (x.Term.P.Args.xs.length : Int)) + 1 * (x.Term.P.Part.xs.length : Int)) + 1) + 1), (((((((((((((k + 1) + 1) + 1) + 1) + 1) + 1) + 1) + 1) + 1 * (x.Term.P.Args.xs.length : Int)) + 1 * (x.Term.P.Part.xs.length : Int)) + 1) + 1) + 1), { x.Term.S.Main.Cells with xs := marks mkCell 6 ((((((((((((((k + 1) + 1) + 1) + 1) + 1) + 1) + 1) + 1) + 1 * (x.Term.P.Args.xs.length : Int)) + 1 * (x.Term.P.Part.xs.length : Int)) + 1) + 1) + 1) + 1) x.Term.S.Main.Cells.xs.length }⟩, ⟨(((((((((((((((k + 1) + 1) + 1) + 1) + 1) + 1) + 1) + 1) + 1 * (x.Term.P.Args.xs.length : Int)) + 1 * (x.Term.P.Part.xs.length : Int)) + 1) + 1) + 1) + 1) + 6 * (x.Term.S.Main.Cells.xs.length : Int)), ((((((((((((((((k + 1) + 1) + 1) + 1) + 1) + 1) + 1) + 1) + 1 * (x.Term.P.Args.xs.length : Int)) + 1 * (x.Term.P.Part.xs.length : Int)) + 1) + 1) + 1) + 1) + 6 * (x.Term.S.Main.Cells.xs.length : Int)) + 1), { x.Term.S.Alt.Cells with xs := marks mkCell 6 (((((((((((((((((k + 1) + 1) + 1) + 1) + 1) + 1) + 1) + 1) + 1 * (x.Term.P.Args.xs.length : Int)) + 1 * (x.Term.P.Part.xs.length : Int)) + 1) + 1) + 1) + 1) + 6 * (x.Term.S.Main.Cells.xs.length : Int)) + 1) + 1) x.Term.S.Alt.Cells.xs.length }⟩, decide (((((((((((((((((((k + 1) + 1) + 1) + 1) + 1) + 1) + 1) + 1) + 1 * (x.Term.P.Args.xs.length : Int)) + 1 * (x.Term.P.Part.xs.length : Int)) + 1) + 1) + 1) + 1) + 6 * (x.Term.S.Main.Cells.xs.length : Int)) + 1) + 1) + 6 * (x.Term.S.Alt.Cells.xs.length : Int)) % 3 = 0), (((((((((((((((((((k + 1) + 1) + 1) + 1) + 1) + 1) + 1) + 1) + 1 * (x.Term.P.Args.xs.length : Int)) + 1 * (x.Term.P.Part.xs.length : Int)) + 1) + 1) + 1) + 1) + 6 * (x.Term.S.Main.Cells.xs.length : Int)) + 1) + 1) + 6 * (x.Term.S.Alt.Cells.xs.length : Int)) + 1), ((((((((((((((((((((k + 1) + 1) + 1) + 1) + 1) + 1) + 1) + 1) + 1 * (x.Term.P.Args.xs.length : Int)) + 1 * (x.Term.P.Part.xs.length : Int)) + 1) + 1) + 1) + 1) + 6 * (x.Term.S.Main.Cells.xs.length : Int)) + 1) + 1) + 6 * (x.Term.S.Alt.Cells.xs.length : Int)) + 1) + 1), decide ((((((((((((((((((((((k + 1) + 1) + 1) + 1) + 1) + 1) + 1) + 1) + 1 * (x.Term.P.Args.xs.length : Int)) + 1 * (x.Term.P.Part.xs.length : Int)) + 1) + 1) + 1) + 1) + 6 * (x.Term.S.Main.Cells.xs.length : Int)) + 1) + 1) + 6 * (x.Term.S.Alt.Cells.xs.length : Int)) + 1) + 1) + 1) % 3 = 0), ⟨((((((((((((((((((((((k + 1) + 1) + 1) + 1) + 1) + 1) + 1) + 1) + 1 * (x.Term.P.Args.xs.length : Int)) + 1 * (x.Term.P.Part.xs.length : Int)) + 1) + 1) + 1) + 1) + 6 * (x.Term.S.Main.Cells.xs.length : Int)) + 1) + 1) + 6 * (x.Term.S.Alt.Cells.xs.length : Int)) + 1) + 1) + 1) + 1), (((((((((((((((((((((((k + 1) + 1) + 1) + 1) + 1) + 1) + 1) + 1) + 1 * (x.Term.P.Args.xs.length : Int)) + 1 * (x.Term.P.Part.xs.length : Int)) + 1) + 1) + 1) + 1) + 6 * (x.Term.S.Main.Cells.xs.length : Int)) + 1) + 1) + 6 * (x.Term.S.Alt.Cells.xs.length : Int)) + 1) + 1) + 1) + 1) + 1), decide (((((((((((((((((((((((((k + 1) + 1) + 1) + 1) + 1) + 1) + 1) + 1) + 1 * (x.Term.P.Args.xs.length : Int)) + 1 * (x.Term.P.Part.xs.length : Int)) + 1) + 1) + 1) + 1) + 6 * (x.Term.S.Main.Cells.xs.length : Int)) + 1) + 1) + 6 * (x.Term.S.Alt.Cells.xs.length : Int)) + 1) + 1) + 1) + 1) + 1) + 1) % 3 = 0), decide ((((((((((((((((((((((((((k + 1) + 1) + 1) + 1) + 1) + 1) + 1) + 1) + 1 * (x.Term.P.Args.xs.length : Int)) + 1 * (x.Term.P.Part.xs.length : Int)) + 1) + 1) + 1) + 1) + 6 * (x.Term.S.Main.Cells.xs.length : Int)) + 1) + 1) + 6 * (x.Term.S.Alt.Cells.xs.length : Int)) + 1) + 1) + 1) + 1) + 1) + 1) + 1) % 3 = 0), decide (((((((((((((((((((((((((((k + 1) + 1) + 1) + 1) + 1) + 1) + 1) + 1) + 1 * (x.Term.P.Args.xs.length : Int)) + 1 * (x.Term.P.Part.xs.length : Int)) + 1) + 1) + 1) + 1) + 6 * (x.Term.S.Main.Cells.xs.length : Int)) + 1) + 1) + 6 * (x.Term.S.Alt.Cells.xs.length : Int)) + 1) + 1) + 1) + 1) + 1) + 1) + 1) + 1) % 3 = 0)⟩, (((((((((((((((((((((((((((k + 1) + 1) + 1) + 1) + 1) + 1) + 1) + 1) + 1 * (x.Term.P.Args.xs.length : Int)) + 1 * (x.Term.P.Part.xs.length : Int)) + 1) + 1) + 1) + 1) + 6 * (x.Term.S.Main.Cells.xs.length : Int)) + 1) + 1) + 6 * (x.Term.S.Alt.Cells.xs.length : Int)) + 1) + 1) + 1) + 1) + 1) + 1) + 1) + 1) + 1), ((((((((((((((((((((((((((((k + 1) + 1) + 1) + 1) + 1) + 1) + 1) + 1) + 1 * (x.Term.P.Args.xs.length : Int)) + 1 * (x.Term.P.Part.xs.length : Int)) + 1) + 1) + 1) + 1) + 6 * (x.Term.S.Main.Cells.xs.length : Int)) + 1) + 1) + 6 * (x.Term.S.Alt.Cells.xs.length : Int)) + 1) + 1) + 1) + 1) + 1) + 1) + 1) + 1) + 1) + 1), decide ((((((((((((((((((((((((((((((k + 1) + 1) + 1) + 1) + 1) + 1) + 1) + 1) + 1 * (x.Term.P.Args.xs.length : Int)) + 1 * (x.Term.P.Part.xs.length : Int)) + 1) + 1) + 1) + 1) + 6 * (x.Term.S.Main.Cells.xs.length : Int)) + 1) + 1) + 6 * (x.Term.S.Alt.Cells.xs.length : Int)) + 1) + 1) + 1) + 1) + 1) + 1) + 1) + 1) + 1) + 1) + 1) % 3 = 0), decide (((((((((((((((((((((((((((((((k + 1) + 1) + 1) + 1) + 1) + 1) + 1) + 1) + 1 * (x.Term.P.Args.xs.length : Int)) + 1 * (x.Term.P.Part.xs.length : Int)) + 1) + 1) + 1) + 1) + 6 * (x.Term.S.Main.Cells.xs.length : Int)) + 1) + 1) + 6 * (x.Term.S.Alt.Cells.xs.length : Int)) + 1) + 1) + 1) + 1) + 1) + 1) + 1) + 1) + 1) + 1) + 1) + 1) % 3 = 0), (((((((((((((((((((((((((((((((k + 1) + 1) + 1) + 1) + 1) + 1) + 1) + 1) + 1 * (x.Term.P.Args.xs.length : Int)) + 1 * (x.Term.P.Part.xs.length : Int)) + 1) + 1) + 1) + 1) + 6 * (x.Term.S.Main.Cells.xs.length : Int)) + 1) + 1) + 6 * (x.Term.S.Alt.Cells.xs.length : Int)) + 1) + 1) + 1) + 1) + 1) + 1) + 1) + 1) + 1) + 1) + 1) + 1) + 1), ((((((((((((((((((((((((((((((((k + 1) + 1) + 1) + 1) + 1) + 1) + 1) + 1) + 1 * (x.Term.P.Args.xs.length : Int)) + 1 * (x.Term.P.Part.xs.length : Int)) + 1) + 1) + 1) + 1) + 6 * (x.Term.S.Main.Cells.xs.length : Int)) + 1) + 1) + 6 * (x.Term.S.Alt.Cells.xs.length : Int)) + 1) + 1) + 1) + 1) + 1) + 1) + 1) + 1) + 1) + 1) + 1) + 1) + 1) + 1), ⟨(((((((((((((((((((((((((((((((((k + 1) + 1) + 1) + 1) + 1) + 1) + 1) + 1) + 1 * (x.Term.P.Args.xs.length : Int)) + 1 * (x.Term.P.Part.xs.length : Int)) + 1) + 1) + 1) + 1) + 6 * (x.Term.S.Main.Cells.xs.length : Int)) + 1) + 1) + 6 * (x.Term.S.Alt.Cells.xs.length : Int)) + 1) + 1) + 1) + 1) + 1) + 1) + 1) + 1) + 1) + 1) + 1) + 1) + 1) + 1) + 1), ((((((((((((((((((((((((((((((((((k + 1) + 1) + 1) + 1) + 1) + 1) + 1) + 1) + 1 * (x.Term.P.Args.xs.length : Int)) + 1 * (x.Term.P.Part.xs.length : Int)) + 1) + 1) + 1) + 1) + 6 * (x.Term.S.Main.Cells.xs.length : Int)) + 1) + 1) + 6 * (x.Term.S.Alt.Cells.xs.length : Int)) + 1) + 1) + 1) + 1) + 1) + 1) + 1) + 1) + 1) + 1) + 1) + 1) + 1) + 1) + 1) + 1), decide ((((((((((((((((((((((((((((((((((((k + 1) + 1) + 1) + 1) + 1) + 1) + 1) + 1) + 1 * (x.Term.P.Args.xs.length : Int)) + 1 * (x.Term.P.Part.xs.length : Int)) + 1) + 1) + 1) + 1) + 6 * (x.Term.S.Main.Cells.xs.length : Int)) + 1) + 1) + 6 * (x.Term.S.Alt.Cells.xs.length : Int)) + 1) + 1) + 1) + 1) + 1) + 1) + 1) + 1) + 1) + 1) + 1) + 1) + 1) + 1) + 1) + 1) + 1) % 3 = 0), decide (((((((((((((((((((((((((((((((((((((k + 1) + 1) + 1) + 1) + 1) + 1) + 1) + 1) + 1 * (x.Term.P.Args.xs.length : Int)) + 1 * (x.Term.P.Part.xs.length : Int)) + 1) + 1) + 1) + 1) + 6 * (x.Term.S.Main.Cells.xs.length : Int)) + 1) + 1) + 6 * (x.Term.S.Alt.Cells.xs.length : Int)) + 1) + 1) + 1) + 1) + 1) + 1) + 1) + 1) + 1) + 1) + 1) + 1) + 1) + 1) + 1) + 1) + 1) + 1) % 3 = 0), decide ((((((((((((((((((((((((((((((((((((((k + 1) + 1) + 1) + 1) + 1) + 1) + 1) + 1) + 1 * (x.Term.P.Args.xs.length : Int)) + 1 * (x.Term.P.Part.xs.length : Int)) + 1) + 1) + 1) + 1) + 6 * (x.Term.S.Main.Cells.xs.length : Int)) + 1) + 1) + 6 * (x.Term.S.Alt.Cells.xs.length : Int)) + 1) + 1) + 1) + 1) + 1) + 1) + 1) + 1) + 1) + 1) + 1) + 1) + 1) + 1) + 1) + 1) + 1) + 1) + 1) % 3 = 0)⟩, { x.Term.S.Tabs with xs := marks (fun k => k) 1 ((((((((((((((((((((((((((((((((((((((k + 1) + 1) + 1) + 1) + 1) + 1) + 1) + 1) + 1 * (x.Term.P.Args.xs.length : Int)) + 1 * (x.Term.P.Part.xs.length : Int)) + 1) + 1) + 1) + 1) + 6 * (x.Term.S.Main.Cells.xs.length : Int)) + 1) + 1) + 6 * (x.Term.S.Alt.Cells.xs.length : Int)) + 1) + 1) + 1) + 1) + 1) + 1) + 1) + 1) + 1) + 1) + 1) + 1) + 1) + 1) + 1) + 1) + 1) + 1) + 1) + 1) x.Term.S.Tabs.xs.length }, (((((((((((((((((((((((((((((((((((((((k + 1) + 1) + 1) + 1) + 1) + 1) + 1) + 1) + 1 * (x.Term.P.Args.xs.length : Int)) + 1 * (x.Term.P.Part.xs.length : Int)) + 1) + 1) + 1) + 1) + 6 * (x.Term.S.Main.Cells.xs.length : Int)) + 1) + 1) + 6 * (x.Term.S.Alt.Cells.xs.length : Int)) + 1) + 1) + 1) + 1) + 1) + 1) + 1) + 1) + 1) + 1) + 1) + 1) + 1) + 1) + 1) + 1) + 1) + 1) + 1) + 1) + 1 * (x.Term.S.Tabs.xs.length : Int)), { x.Term.S.Back with xs := mrks mkERow cntERow ((((((((((((((((((((((((((((((((((((((((k + 1) + 1) + 1) + 1) + 1) + 1) + 1) + 1) + 1 * (x.Term.P.Args.xs.length : Int)) + 1 * (x.Term.P.Part.xs.length : Int)) + 1) + 1) + 1) + 1) + 6 * (x.Term.S.Main.Cells.xs.length : Int)) + 1) + 1) + 6 * (x.Term.S.Alt.Cells.xs.length : Int)) + 1) + 1) + 1) + 1) + 1) + 1) + 1) + 1) + 1) + 1) + 1) + 1) + 1) + 1) + 1) + 1) + 1) + 1) + 1) + 1) + 1 * (x.Term.S.Tabs.xs.length : Int)) + 1) x.Term.S.Back.xs }⟩⟩⟩
def cntEPane (x : PaneR) : Int := 35 + 1 * (x.Term.P.Args.xs.length : Int) + 1 * (x.Term.P.Part.xs.length : Int) + 6 * (x.Term.S.Main.Cells.xs.length : Int) + 6 * (x.Term.S.Alt.Cells.xs.length : Int) + 1 * (x.Term.S.Tabs.xs.length : Int) + cnts cntERow x.Term.S.Back.xs
theorem cntEPane_le (x : PaneR) : cntEPane x ≤ 64 + 64 * (totPane x.dat : Int) := by
  have h_Term_S_Back := cnts_le (c := cntERow) (f := totRow) (g := RowR.dat) cntERow_le x.Term.S.Back.xs
  simp only [cntEPane, totPane, GridR.dat, PaneR.dat, ScrR.dat, TermR.dat, VpR.dat]
  omega
theorem cntEPane_ge (x : PaneR) : 0 ≤ cntEPane x := by
  have h_Term_S_Back := cnts_nonneg (c := cntERow) cntERow_ge x.Term.S.Back.xs
  simp only [cntEPane]
  omega
structure WinR where
  Id : Int
  Name : ByteArray
  Tree : SlD NodeD
  Active : Int
  Zoom : Bool
def encWinR : Enc WinR := ⟨5, fun d => [i64 d.Id, .string d.Name, .slice d.Tree.A d.Tree.n d.Tree.c, i64 d.Active, .bool d.Zoom], ⟨0, { data := #[] }, ⟨none, 0, 0, []⟩, 0, false⟩, fun _ => rfl, fun x v h => by simp at h; rcases h with rfl | rfl | rfl | rfl | rfl <;> rfl, by decide⟩
structure okWinR (B : Nat) (w : World) (x : WinR) : Prop where
  Name_z : x.Name.size ≤ B
  Tree : SlF encNode w x.Tree.A x.Tree.n x.Tree.xs
  Tree_c : x.Tree.n ≤ x.Tree.c
  Tree_n : x.Tree.n ≤ B
structure sepWinR (T : List Nat) (x : WinR) : Prop where
  Tree : 0 < x.Tree.n → (adr x.Tree.A).block ∉ T
theorem okWinR.st0 {B : Nat} {w0 w : World} {L : Hp} {x : WinR} (h : okWinR B w0 x) (hs : St w0 [] L w) : okWinR B w x := ⟨h.Name_z, SlF.st0 h.Tree hs, h.Tree_c, h.Tree_n⟩
theorem okWinR.st {B : Nat} {w0 w : World} {T : List Nat} {L : Hp} {x : WinR} (h : okWinR B w0 x) (hs : St w0 T L w) (hp : sepWinR T x) : okWinR B w x := ⟨h.Name_z, SlF.st h.Tree hs hp.Tree, h.Tree_c, h.Tree_n⟩
theorem okWinR.le {B B' : Nat} {w : World} {x : WinR} (h : okWinR B w x) (hB : B ≤ B') : okWinR B' w x := ⟨Nat.le_trans h.Name_z hB, h.Tree, h.Tree_c, Nat.le_trans h.Tree_n hB⟩
def WinR.dat (x : WinR) : WinD := ⟨x.Id, x.Name, x.Tree.xs, x.Active, x.Zoom⟩
def smWin (B : Nat) (d : WinD) : Prop := (d.Name.size ≤ B) ∧ (d.Tree.length ≤ B)
theorem okWinR.to {B B' : Nat} {w : World} {x : WinR} (h : okWinR B w x) (h2 : smWin B' x.dat) : okWinR B' w x := ⟨h2.1, h.Tree, h.Tree_c, (by have := h.Tree.len; have h3 := h2.2; simp only [smWin, WinR.dat] at h3; omega)⟩
def totWin (d : WinD) : Nat := d.Name.size + d.Tree.length
theorem totWin_sm {B : Nat} {d : WinD} (h : totWin d ≤ B) : smWin B d := by
  simp only [totWin] at h
  unfold smWin
  exact ⟨(by omega), (by omega)⟩
def ownWinR (x : WinR) (L : Hp) : Prop := OwnF encNode 103 (.slice x.Tree.A x.Tree.n x.Tree.c) x.Tree.xs L
theorem ownWinR.len {x : WinR} {L : Hp} (h : ownWinR x L) : x.Tree.xs.length = x.Tree.n := by
  exact (OwnF.len_ h)
theorem ownWinR.ok {B : Nat} {w : World} {x : WinR} {L : Hp} (h : ownWinR x L) (hh : ∀ p, p ∈ L → w.heap[p.1]? = some p.2) (h2 : smWin B x.dat) : okWinR B w x := by
  exact ⟨(h2.1), SlF.ofOwn h (fun p hp => hh p hp), OwnF.cap h, (by have := OwnF.len_ h; have h3 := h2.2; simp only [WinR.dat, smWin] at h3; omega)⟩
def mkEWin (k : Int) (x : WinR) : WinR := ⟨k, markText (k + 1), { x.Tree with xs := marks mkNode 3 ((k + 1) + 1) x.Tree.xs.length }, (((k + 1) + 1) + 3 * (x.Tree.xs.length : Int)), decide (((((k + 1) + 1) + 3 * (x.Tree.xs.length : Int)) + 1) % 3 = 0)⟩
def cntEWin (x : WinR) : Int := 4 + 3 * (x.Tree.xs.length : Int)
theorem cntEWin_le (x : WinR) : cntEWin x ≤ 64 + 64 * (totWin x.dat : Int) := by
  simp only [cntEWin, totWin, WinR.dat]
  omega
theorem cntEWin_ge (x : WinR) : 0 ≤ cntEWin x := by
  simp only [cntEWin]
  omega
structure SessR where
  Name : ByteArray
  Wins : SlD Int
  Active : Int
def encSessR : Enc SessR := ⟨3, fun d => [.string d.Name, .slice d.Wins.A d.Wins.n d.Wins.c, i64 d.Active], ⟨{ data := #[] }, ⟨none, 0, 0, []⟩, 0⟩, fun _ => rfl, fun x v h => by simp at h; rcases h with rfl | rfl | rfl <;> rfl, by decide⟩
structure okSessR (B : Nat) (w : World) (x : SessR) : Prop where
  Name_z : x.Name.size ≤ B
  Wins : SlF encI w x.Wins.A x.Wins.n x.Wins.xs
  Wins_c : x.Wins.n ≤ x.Wins.c
  Wins_n : x.Wins.n ≤ B
structure sepSessR (T : List Nat) (x : SessR) : Prop where
  Wins : 0 < x.Wins.n → (adr x.Wins.A).block ∉ T
theorem okSessR.st0 {B : Nat} {w0 w : World} {L : Hp} {x : SessR} (h : okSessR B w0 x) (hs : St w0 [] L w) : okSessR B w x := ⟨h.Name_z, SlF.st0 h.Wins hs, h.Wins_c, h.Wins_n⟩
theorem okSessR.st {B : Nat} {w0 w : World} {T : List Nat} {L : Hp} {x : SessR} (h : okSessR B w0 x) (hs : St w0 T L w) (hp : sepSessR T x) : okSessR B w x := ⟨h.Name_z, SlF.st h.Wins hs hp.Wins, h.Wins_c, h.Wins_n⟩
theorem okSessR.le {B B' : Nat} {w : World} {x : SessR} (h : okSessR B w x) (hB : B ≤ B') : okSessR B' w x := ⟨Nat.le_trans h.Name_z hB, h.Wins, h.Wins_c, Nat.le_trans h.Wins_n hB⟩
def SessR.dat (x : SessR) : SessD := ⟨x.Name, x.Wins.xs, x.Active⟩
def smSess (B : Nat) (d : SessD) : Prop := (d.Name.size ≤ B) ∧ (d.Wins.length ≤ B)
theorem okSessR.to {B B' : Nat} {w : World} {x : SessR} (h : okSessR B w x) (h2 : smSess B' x.dat) : okSessR B' w x := ⟨h2.1, h.Wins, h.Wins_c, (by have := h.Wins.len; have h3 := h2.2; simp only [smSess, SessR.dat] at h3; omega)⟩
def totSess (d : SessD) : Nat := d.Name.size + d.Wins.length
theorem totSess_sm {B : Nat} {d : SessD} (h : totSess d ≤ B) : smSess B d := by
  simp only [totSess] at h
  unfold smSess
  exact ⟨(by omega), (by omega)⟩
def ownSessR (x : SessR) (L : Hp) : Prop := OwnF encI 3 (.slice x.Wins.A x.Wins.n x.Wins.c) x.Wins.xs L
theorem ownSessR.len {x : SessR} {L : Hp} (h : ownSessR x L) : x.Wins.xs.length = x.Wins.n := by
  exact (OwnF.len_ h)
theorem ownSessR.ok {B : Nat} {w : World} {x : SessR} {L : Hp} (h : ownSessR x L) (hh : ∀ p, p ∈ L → w.heap[p.1]? = some p.2) (h2 : smSess B x.dat) : okSessR B w x := by
  exact ⟨(h2.1), SlF.ofOwn h (fun p hp => hh p hp), OwnF.cap h, (by have := OwnF.len_ h; have h3 := h2.2; simp only [SessR.dat, smSess] at h3; omega)⟩
def mkESess (k : Int) (x : SessR) : SessR := ⟨markText k, { x.Wins with xs := marks (fun k => k) 1 (k + 1) x.Wins.xs.length }, ((k + 1) + 1 * (x.Wins.xs.length : Int))⟩
def cntESess (x : SessR) : Int := 2 + 1 * (x.Wins.xs.length : Int)
theorem cntESess_le (x : SessR) : cntESess x ≤ 64 + 64 * (totSess x.dat : Int) := by
  simp only [cntESess, totSess, SessR.dat]
  omega
theorem cntESess_ge (x : SessR) : 0 ≤ cntESess x := by
  simp only [cntESess]
  omega
structure StateR where
  W : Int
  H : Int
  Limit : Int
  Next : Int
  Panes : SlD PaneR
  Wins : SlD WinR
  Sess : SlD SessR
def encStateR : Enc StateR := ⟨7, fun d => [i64 d.W, i64 d.H, i64 d.Limit, i64 d.Next, .slice d.Panes.A d.Panes.n d.Panes.c, .slice d.Wins.A d.Wins.n d.Wins.c, .slice d.Sess.A d.Sess.n d.Sess.c], ⟨0, 0, 0, 0, ⟨none, 0, 0, []⟩, ⟨none, 0, 0, []⟩, ⟨none, 0, 0, []⟩⟩, fun _ => rfl, fun x v h => by simp at h; rcases h with rfl | rfl | rfl | rfl | rfl | rfl | rfl <;> rfl, by decide⟩
structure okStateR (B : Nat) (w : World) (x : StateR) : Prop where
  Panes : SlN encPaneR (okPaneR B) w x.Panes.A x.Panes.n x.Panes.xs
  Panes_c : x.Panes.n ≤ x.Panes.c
  Panes_n : x.Panes.n ≤ B
  Wins : SlN encWinR (okWinR B) w x.Wins.A x.Wins.n x.Wins.xs
  Wins_c : x.Wins.n ≤ x.Wins.c
  Wins_n : x.Wins.n ≤ B
  Sess : SlN encSessR (okSessR B) w x.Sess.A x.Sess.n x.Sess.xs
  Sess_c : x.Sess.n ≤ x.Sess.c
  Sess_n : x.Sess.n ≤ B
structure sepStateR (T : List Nat) (x : StateR) : Prop where
  Panes : 0 < x.Panes.n → (adr x.Panes.A).block ∉ T
  Panes_a : ∀ y, y ∈ x.Panes.xs → sepPaneR T y
  Wins : 0 < x.Wins.n → (adr x.Wins.A).block ∉ T
  Wins_a : ∀ y, y ∈ x.Wins.xs → sepWinR T y
  Sess : 0 < x.Sess.n → (adr x.Sess.A).block ∉ T
  Sess_a : ∀ y, y ∈ x.Sess.xs → sepSessR T y
theorem okStateR.st0 {B : Nat} {w0 w : World} {L : Hp} {x : StateR} (h : okStateR B w0 x) (hs : St w0 [] L w) : okStateR B w x := ⟨⟨SlF.st0 h.Panes.sl hs, fun y hy => okPaneR.st0 (h.Panes.all y hy) hs⟩, h.Panes_c, h.Panes_n, ⟨SlF.st0 h.Wins.sl hs, fun y hy => okWinR.st0 (h.Wins.all y hy) hs⟩, h.Wins_c, h.Wins_n, ⟨SlF.st0 h.Sess.sl hs, fun y hy => okSessR.st0 (h.Sess.all y hy) hs⟩, h.Sess_c, h.Sess_n⟩
theorem okStateR.st {B : Nat} {w0 w : World} {T : List Nat} {L : Hp} {x : StateR} (h : okStateR B w0 x) (hs : St w0 T L w) (hp : sepStateR T x) : okStateR B w x := ⟨⟨SlF.st h.Panes.sl hs hp.Panes, fun y hy => okPaneR.st (h.Panes.all y hy) hs (hp.Panes_a y hy)⟩, h.Panes_c, h.Panes_n, ⟨SlF.st h.Wins.sl hs hp.Wins, fun y hy => okWinR.st (h.Wins.all y hy) hs (hp.Wins_a y hy)⟩, h.Wins_c, h.Wins_n, ⟨SlF.st h.Sess.sl hs hp.Sess, fun y hy => okSessR.st (h.Sess.all y hy) hs (hp.Sess_a y hy)⟩, h.Sess_c, h.Sess_n⟩
theorem okStateR.le {B B' : Nat} {w : World} {x : StateR} (h : okStateR B w x) (hB : B ≤ B') : okStateR B' w x := ⟨⟨h.Panes.sl, fun y hy => okPaneR.le (h.Panes.all y hy) hB⟩, h.Panes_c, Nat.le_trans h.Panes_n hB, ⟨h.Wins.sl, fun y hy => okWinR.le (h.Wins.all y hy) hB⟩, h.Wins_c, Nat.le_trans h.Wins_n hB, ⟨h.Sess.sl, fun y hy => okSessR.le (h.Sess.all y hy) hB⟩, h.Sess_c, Nat.le_trans h.Sess_n hB⟩
def StateR.dat (x : StateR) : StateD := ⟨x.W, x.H, x.Limit, x.Next, x.Panes.xs.map PaneR.dat, x.Wins.xs.map WinR.dat, x.Sess.xs.map SessR.dat⟩
def smState (B : Nat) (d : StateD) : Prop := (d.Panes.length ≤ B) ∧ (∀ y, y ∈ d.Panes → smPane B y) ∧ (d.Wins.length ≤ B) ∧ (∀ y, y ∈ d.Wins → smWin B y) ∧ (d.Sess.length ≤ B) ∧ (∀ y, y ∈ d.Sess → smSess B y)
theorem okStateR.to {B B' : Nat} {w : World} {x : StateR} (h : okStateR B w x) (h2 : smState B' x.dat) : okStateR B' w x := ⟨⟨h.Panes.sl, fun y hy => (h.Panes.all y hy).to (h2.2.1 _ (List.mem_map_of_mem hy))⟩, h.Panes_c, (by have := h.Panes.sl.len; have h3 := h2.1; simp only [smState, StateR.dat, List.length_map] at h3; omega), ⟨h.Wins.sl, fun y hy => (h.Wins.all y hy).to (h2.2.2.2.1 _ (List.mem_map_of_mem hy))⟩, h.Wins_c, (by have := h.Wins.sl.len; have h3 := h2.2.2.1; simp only [smState, StateR.dat, List.length_map] at h3; omega), ⟨h.Sess.sl, fun y hy => (h.Sess.all y hy).to (h2.2.2.2.2.2 _ (List.mem_map_of_mem hy))⟩, h.Sess_c, (by have := h.Sess.sl.len; have h3 := h2.2.2.2.2.1; simp only [smState, StateR.dat, List.length_map] at h3; omega)⟩
def totState (d : StateD) : Nat := tots totPane d.Panes + tots totWin d.Wins + tots totSess d.Sess
theorem totState_sm {B : Nat} {d : StateD} (h : totState d ≤ B) : smState B d := by
  simp only [totState] at h
  unfold smState
  exact ⟨(by have := tots_len totPane d.Panes; omega), (fun y hy => totPane_sm (by have := tots_mem (f := totPane) hy; omega)), (by have := tots_len totWin d.Wins; omega), (fun y hy => totWin_sm (by have := tots_mem (f := totWin) hy; omega)), (by have := tots_len totSess d.Sess; omega), (fun y hy => totSess_sm (by have := tots_mem (f := totSess) hy; omega))⟩
def ownStateR (x : StateR) (L : Hp) : Prop := ∃ L1 L2 L3, L = L1 ++ (L2 ++ L3) ∧ OwnN encPaneR ownPaneR 93 (.slice x.Panes.A x.Panes.n x.Panes.c) x.Panes.xs L1 ∧ OwnN encWinR ownWinR 58 (.slice x.Wins.A x.Wins.n x.Wins.c) x.Wins.xs L2 ∧ OwnN encSessR ownSessR 106 (.slice x.Sess.A x.Sess.n x.Sess.c) x.Sess.xs L3
theorem ownStateR.fold {w0 w : World} {T : List Nat} {L1 L2 L3 R : Hp} (x : StateR) (hs : St w0 T (L1 ++ (L2 ++ (L3 ++ R))) w) (o1 : OwnN encPaneR ownPaneR 93 (.slice x.Panes.A x.Panes.n x.Panes.c) x.Panes.xs L1) (o2 : OwnN encWinR ownWinR 58 (.slice x.Wins.A x.Wins.n x.Wins.c) x.Wins.xs L2) (o3 : OwnN encSessR ownSessR 106 (.slice x.Sess.A x.Sess.n x.Sess.c) x.Sess.xs L3) : ∃ L, St w0 T (L ++ R) w ∧ ownStateR x L := ⟨L1 ++ (L2 ++ L3), by simpa only [List.append_assoc] using hs, L1, L2, L3, rfl, o1, o2, o3⟩
theorem ownStateR.fl {w0 w : World} {T : List Nat} {L1 L2 L3 L S1 S2 S3 : Hp} [k1 : Fr1 L1 L S1] [k2 : Fr1 L2 S1 S2] [k3 : Fr1 L3 S2 S3] {A1 : Option Addr} {n1 c1 : Nat} {x1 : _} {A2 : Option Addr} {n2 c2 : Nat} {x2 : _} {A3 : Option Addr} {n3 c3 : Nat} {x3 : _} (hs : St w0 T L w) (o1 : OwnN encPaneR ownPaneR 93 (.slice A1 n1 c1) x1 L1) (o2 : OwnN encWinR ownWinR 58 (.slice A2 n2 c2) x2 L2) (o3 : OwnN encSessR ownSessR 106 (.slice A3 n3 c3) x3 L3) : ∃ L', St w0 T (L' ++ S3) w ∧ ownStateR ⟨0, 0, 0, 0, ⟨A1, n1, c1, x1⟩, ⟨A2, n2, c2, x2⟩, ⟨A3, n3, c3, x3⟩⟩ L' := ⟨L1 ++ (L2 ++ L3), by simpa only [List.append_assoc] using hs.perm ((List.Perm.append_left L1 ((List.Perm.append_left L2 k3.pf).trans k2.pf)).trans k1.pf), L1, L2, L3, rfl, o1, o2, o3⟩
theorem ownStateR.op {w0 w : World} {T : List Nat} {L LL R : Hp} {x : StateR} [k : Fr1 LL L R] (hs : St w0 T L w) (h : ownStateR x LL) : ∃ L1 L2 L3, St w0 T (L1 ++ (L2 ++ (L3 ++ R))) w ∧ OwnN encPaneR ownPaneR 93 (.slice x.Panes.A x.Panes.n x.Panes.c) x.Panes.xs L1 ∧ OwnN encWinR ownWinR 58 (.slice x.Wins.A x.Wins.n x.Wins.c) x.Wins.xs L2 ∧ OwnN encSessR ownSessR 106 (.slice x.Sess.A x.Sess.n x.Sess.c) x.Sess.xs L3 := by
  have hs := hs.fr LL
  obtain ⟨L1, L2, L3, rfl, h⟩ := h
  exact ⟨L1, L2, L3, by simpa only [List.append_assoc] using hs, h⟩
theorem ownStateR.ret {w w' : World} {K : List Nat} {L1 : Hp} {e : Ending} {D : StateD} {v0 : Int} {v1 : Int} {v2 : Int} {v3 : Int} {A1 : Option Addr} {n1 c1 : Nat} {x1 : _} {A2 : Option Addr} {n2 c2 : Nat} {x2 : _} {A3 : Option Addr} {n3 c3 : Nat} {x3 : _} (he : e = .returned (.agg (List.toArray [i64 v0, i64 v1, i64 v2, i64 v3, .slice A1 n1 c1, .slice A2 n2 c2, .slice A3 n3 c3]))) (hs : St w K L1 w') (ho : ownStateR ⟨0, 0, 0, 0, ⟨A1, n1, c1, x1⟩, ⟨A2, n2, c2, x2⟩, ⟨A3, n3, c3, x3⟩⟩ L1) (hd : (⟨v0, v1, v2, v3, ⟨A1, n1, c1, x1⟩, ⟨A2, n2, c2, x2⟩, ⟨A3, n3, c3, x3⟩⟩ : StateR).dat = D) : ∃ r L1, e = .returned (.agg #[i64 r.W, i64 r.H, i64 r.Limit, i64 r.Next, .slice r.Panes.A r.Panes.n r.Panes.c, .slice r.Wins.A r.Wins.n r.Wins.c, .slice r.Sess.A r.Sess.n r.Sess.c]) ∧ St w K L1 w' ∧ ownStateR r L1 ∧ r.dat = D := ⟨⟨v0, v1, v2, v3, ⟨A1, n1, c1, x1⟩, ⟨A2, n2, c2, x2⟩, ⟨A3, n3, c3, x3⟩⟩, L1, he, hs, ho, hd⟩
theorem ownStateR.open_ {w0 w : World} {T : List Nat} {L R : Hp} {x : StateR} (hs : St w0 T (L ++ R) w) (h : ownStateR x L) : ∃ L1 L2 L3, St w0 T (L1 ++ (L2 ++ (L3 ++ R))) w ∧ OwnN encPaneR ownPaneR 93 (.slice x.Panes.A x.Panes.n x.Panes.c) x.Panes.xs L1 ∧ OwnN encWinR ownWinR 58 (.slice x.Wins.A x.Wins.n x.Wins.c) x.Wins.xs L2 ∧ OwnN encSessR ownSessR 106 (.slice x.Sess.A x.Sess.n x.Sess.c) x.Sess.xs L3 := by
  obtain ⟨L1, L2, L3, rfl, h⟩ := h
  exact ⟨L1, L2, L3, by simpa only [List.append_assoc] using hs, h⟩
theorem ownStateR.len {x : StateR} {L : Hp} (h : ownStateR x L) : x.Panes.xs.length = x.Panes.n ∧ x.Wins.xs.length = x.Wins.n ∧ x.Sess.xs.length = x.Sess.n := by
  obtain ⟨L1, L2, L3, rfl, o1, o2, o3⟩ := h
  exact ⟨(OwnN.len_ o1), (OwnN.len_ o2), (OwnN.len_ o3)⟩
theorem ownStateR.ok {B : Nat} {w : World} {x : StateR} {L : Hp} (h : ownStateR x L) (hh : ∀ p, p ∈ L → w.heap[p.1]? = some p.2) (h2 : smState B x.dat) : okStateR B w x := by
  obtain ⟨L1, L2, L3, rfl, o1, o2, o3⟩ := h
  simp only [List.mem_append] at hh
  exact ⟨OwnN.ok o1 (fun p hp => hh p (.inl hp)) (fun y Li hy h3 hl => h3.ok hl (h2.2.1 _ (List.mem_map_of_mem hy))), OwnN.cap o1, (by have := OwnN.len_ o1; have h3 := h2.1; simp only [StateR.dat, smState, List.length_map] at h3; omega), OwnN.ok o2 (fun p hp => hh p (.inr (.inl hp))) (fun y Li hy h3 hl => h3.ok hl (h2.2.2.2.1 _ (List.mem_map_of_mem hy))), OwnN.cap o2, (by have := OwnN.len_ o2; have h3 := h2.2.2.1; simp only [StateR.dat, smState, List.length_map] at h3; omega), OwnN.ok o3 (fun p hp => hh p (.inr (.inr (hp)))) (fun y Li hy h3 hl => h3.ok hl (h2.2.2.2.2.2 _ (List.mem_map_of_mem hy))), OwnN.cap o3, (by have := OwnN.len_ o3; have h3 := h2.2.2.2.2.1; simp only [StateR.dat, smState, List.length_map] at h3; omega)⟩
def markState (k : Int) (x : StateR) : StateR := ⟨x.W, x.H, x.Limit, x.Next, { x.Panes with xs := mrks mkEPane cntEPane k x.Panes.xs }, { x.Wins with xs := mrks mkEWin cntEWin (k + cnts cntEPane x.Panes.xs) x.Wins.xs }, { x.Sess with xs := mrks mkESess cntESess ((k + cnts cntEPane x.Panes.xs) + cnts cntEWin x.Wins.xs) x.Sess.xs }⟩
def endState (k : Int) (x : StateR) : Int := (((k + cnts cntEPane x.Panes.xs) + cnts cntEWin x.Wins.xs) + cnts cntESess x.Sess.xs)
theorem endState_le (k : Int) (x : StateR) : endState k x ≤ k + 64 * (totState x.dat : Int) := by
  have h_Panes := cnts_le (c := cntEPane) (f := totPane) (g := PaneR.dat) cntEPane_le x.Panes.xs
  have h_Wins := cnts_le (c := cntEWin) (f := totWin) (g := WinR.dat) cntEWin_le x.Wins.xs
  have h_Sess := cnts_le (c := cntESess) (f := totSess) (g := SessR.dat) cntESess_le x.Sess.xs
  simp only [endState, StateR.dat, totState]
  omega
theorem endState_ge (k : Int) (x : StateR) : k ≤ endState k x := by
  have h_Panes := cnts_nonneg (c := cntEPane) cntEPane_ge x.Panes.xs
  have h_Wins := cnts_nonneg (c := cntEWin) cntEWin_ge x.Wins.xs
  have h_Sess := cnts_nonneg (c := cntESess) cntESess_ge x.Sess.xs
  simp only [endState]
  omega
def within (n lo hi : Int) : Bool := decide (lo ≤ n) && decide (n ≤ hi)
theorem within_iff {n lo hi : Int} : within n lo hi = true ↔ lo ≤ n ∧ n ≤ hi := by simp [within]
theorem within_not {n lo hi : Int} : within n lo hi = false ↔ ¬ (lo ≤ n ∧ n ≤ hi) := by rw [← within_iff]; simp
def shows (n : Int) : Bool := within n 32 126 || within n 160 65535 && !within n 55296 57343
def wordB (c : Int) : Bool := decide (97 ≤ c) && decide (c ≤ 122) || decide (48 ≤ c) && decide (c ≤ 57)
def upto (p : UInt8 → Bool) (s : ByteArray) (k : Nat) : Prop := ∀ j, j < k → p (sbyte s j) = true
def allB (p : UInt8 → Bool) (s : ByteArray) : Bool := s.data.toList.all p
theorem sbyte_get {s : ByteArray} {j : Nat} (h : j < s.size) : s.data.toList[j]? = some (sbyte s j) := by
 unfold sbyte
 have : j < s.data.toList.length := by simpa using h
 rw [List.getD_eq_getElem?_getD, List.getElem?_eq_getElem this]; rfl
theorem allB_true {p : UInt8 → Bool} {s : ByteArray} {k : Nat} (h : upto p s k) (hk : s.size ≤ k) : allB p s = true := by
 unfold allB
 rw [List.all_eq_true]
 intro x hx
 obtain ⟨j, hj, rfl⟩ := List.mem_iff_getElem.1 hx
 have hj' : j < s.size := by simpa using hj
 have h1 := sbyte_get hj'
 rw [List.getElem?_eq_getElem hj] at h1
 rw [Option.some.inj h1]
 exact h j (by omega)
theorem allB_false {p : UInt8 → Bool} {s : ByteArray} {k : Nat} (hk : k < s.size) (h : p (sbyte s k) = false) : allB p s = false := by
 unfold allB
 rw [← Bool.not_eq_true, List.all_eq_true]
 intro hh
 have := hh (sbyte s k) (List.mem_of_getElem? (sbyte_get hk))
 rw [h] at this
 cases this
theorem upto_zero {p : UInt8 → Bool} {s : ByteArray} : upto p s 0 := fun _ h => absurd h (by omega)
theorem upto_succ {p : UInt8 → Bool} {s : ByteArray} {k : Nat} (h : upto p s k) (hk : p (sbyte s k) = true) : upto p s (k + 1) := fun j hj => by
 rcases Nat.lt_or_ge j k with h1 | h1
 ·exact h j h1
 ·have : j = k := by omega
  subst this; exact hk
def plainB (more : ByteArray) (c : UInt8) : Bool := wordB c.toNat || decide (0 ≤ firstIdx more c)
def isPlain (s : ByteArray) (most : Int) (more : ByteArray) : Bool := allB (plainB more) s && within s.size 1 most
def wordOk (s : ByteArray) : Bool := isPlain s 12 ByteArray.empty
theorem firstIdx_empty (c : UInt8) : firstIdx ByteArray.empty c = -1 := rfl
theorem plainB_empty (c : UInt8) : plainB ByteArray.empty c = wordB c.toNat := by
 unfold plainB
 rw [firstIdx_empty]
 simp
theorem wordB_of {c : Int} (h : ((decide (c < 97) || decide (122 < c)) && (decide (c < 48) || decide (57 < c))) = false) : wordB c = true := by
 simp [wordB] at h ⊢; omega
theorem wordB_not {c : Int} (h : ((decide (c < 97) || decide (122 < c)) && (decide (c < 48) || decide (57 < c))) = true) : wordB c = false := by
 simp [wordB] at h ⊢; omega
def isNumB (n : Int) : Bool := decide (0 ≤ n) && decide (n ≤ 4294967295)
def isCmd (s : ByteArray) : Bool := decide (s.size ≤ 60)
def isId (n : Int) : Bool := within n 1 1000000
def szR (left total : Int) : Int := if total ≤ left then left - total else -1
theorem szR_b {a n : Int} (h : ¬ szR a n < 0) (hn : 0 ≤ n) (ha : a ≤ 1048576) : szR a n ≤ 1048576 := by unfold szR at *; split at * <;> omega
theorem szR_ok {a n : Int} (h : ¬ szR a n < 0) (hn : 0 ≤ n) : szR a n = a - n ∧ n ≤ a := by unfold szR at *; split at * <;> omega
theorem szR_no {a n : Int} (h : szR a n < 0) : a < n := by unfold szR at *; split at * <;> omega
theorem szR_lt {a n : Int} (h : a < n) : szR a n = -1 := by unfold szR; rw [if_neg (by omega)]
theorem szR_le {a n : Int} (h : n ≤ a) : szR a n = a - n := by unfold szR; rw [if_pos h]
def varL (n : Nat) : List UInt8 := if n < 128 then [UInt8.ofNat n] else UInt8.ofNat (n % 128 + 128) :: varL (n / 128)
termination_by n
decreasing_by omega
theorem varL_small {n : Nat} (h : n < 128) : varL n = [UInt8.ofNat n] := by rw [varL, if_pos h]
theorem varL_big {n : Nat} (h : ¬ n < 128) : varL n = UInt8.ofNat (n % 128 + 128) :: varL (n / 128) := by rw [varL, if_neg h]
theorem ub_small {k : Int} (h0 : 0 ≤ k) (h : k < 128) : [ub k] = varL k.toNat := by
 rw [varL_small (by omega)]
 unfold ub
 congr 2
 omega
theorem ub_big {k : Int} (h : 128 ≤ k) : ub (k % 128 + 128) :: varL (k / 128).toNat = varL k.toNat := by
 rw [varL_big (n := k.toNat) (by omega)]
 unfold ub
 have e1 : ((k % 128 + 128) % 256).toNat = k.toNat % 128 + 128 := by omega
 have e2 : (k / 128).toNat = k.toNat / 128 := by omega
 rw [e1, e2]
theorem varL_len (n : Nat) (h : n < 34359738368) : (varL n).length ≤ 5 := by
 have step : ∀ n, (varL n).length ≤ 1 + (if n < 128 then 0 else (varL (n / 128)).length) := by
  intro n
  by_cases h : n < 128
  ·rw [varL_small h, if_pos h]; simp
  ·rw [varL_big h, if_neg h]; simp; omega
 have h1 := step n
 have h2 := step (n / 128)
 have h3 := step (n / 128 / 128)
 have h4 := step (n / 128 / 128 / 128)
 have h5 := step (n / 128 / 128 / 128 / 128)
 have h6 : n / 128 / 128 / 128 / 128 < 128 := by omega
 rw [if_pos h6] at h5
 split at h1 <;> split at h2 <;> split at h3 <;> split at h4 <;> omega
def numsL (l : List Int) : List UInt8 := l.flatMap fun n => varL n.toNat
theorem numsL_take {l : List Int} {i : Nat} (h : i < l.length) : numsL (l.take (i + 1)) = numsL (l.take i) ++ varL (iat l i).toNat := by
 unfold numsL
 rw [List.take_add_one, gat_get (F := encI) h, List.flatMap_append]
 simp
theorem numsL_len : ∀ {l : List Int}, (∀ x, x ∈ l → x ≤ 34359738367) → (numsL l).length ≤ 5 * l.length
 | [], _ => by simp [numsL]
 | x :: r, h => by
  have h1 := numsL_len (l := r) fun y hy => h y (List.mem_cons_of_mem _ hy)
  have h2 := varL_len x.toNat (by have := h x List.mem_cons_self; omega)
  have e : numsL (x :: r) = varL x.toNat ++ numsL r := rfl
  rw [e, List.length_append, List.length_cons]
  omega
def textL (s : ByteArray) : List UInt8 := varL s.size ++ s.data.toList
theorem textL_len {s : ByteArray} (h : s.size ≤ 34359738367) : (textL s).length ≤ 5 + s.size := by
 have := varL_len s.size (by omega)
 unfold textL
 rw [List.length_append]
 simp; omega
def findI {α : Type} (p : α → Bool) (xs : List α) : Int := match xs.findIdx? p with | some i => (i : Int) | none => -1
theorem findI_some {α : Type} {F : Enc α} {p : α → Bool} {xs : List α} {i : Nat} (hi : i < xs.length) (h : ∀ j, j < i → p (gat F xs j) = false) (hp : p (gat F xs i) = true) : findI p xs = i := by
 have e : ∀ j (hj : j < xs.length), gat F xs j = xs[j] := fun j hj => by
  have := gat_get (F := F) hj
  rw [List.getElem?_eq_getElem hj] at this
  exact (Option.some.inj this).symm
 have : xs.findIdx? p = some i := by
  rw [List.findIdx?_eq_some_iff_getElem]
  refine ⟨hi, by rw [← e i hi]; exact hp, fun j hj => ?_⟩
  rw [← e j (by omega), h j hj]
  simp
 simp [findI, this]
theorem findI_none {α : Type} {F : Enc α} {p : α → Bool} {xs : List α} (h : ∀ j, j < xs.length → p (gat F xs j) = false) : findI p xs = -1 := by
 have : xs.findIdx? p = none := by
  rw [List.findIdx?_eq_none_iff]
  intro x hx
  obtain ⟨i, hi, rfl⟩ := List.mem_iff_getElem.1 hx
  have e := gat_get (F := F) hi
  rw [List.getElem?_eq_getElem hi] at e
  rw [Option.some.inj e]
  exact h i hi
 simp [findI, this]
theorem findI_cases {α : Type} {p : α → Bool} {xs : List α} : (findI p xs = -1 ∧ ∀ x, x ∈ xs → p x = false) ∨ ∃ i, ∃ h : i < xs.length, findI p xs = (i : Int) ∧ p xs[i] = true ∧ ∀ j, (hj : j < i) → p (xs[j]'(by omega)) = false := by
 cases e : xs.findIdx? p with
 | none => exact Or.inl ⟨by simp [findI, e], List.findIdx?_eq_none_iff.1 e⟩
 | some i =>
  obtain ⟨h1, h2, h3⟩ := List.findIdx?_eq_some_iff_getElem.1 e
  exact Or.inr ⟨i, h1, by simp [findI, e], h2, fun j hj => by simpa using h3 j hj⟩
def attrOk (fg bg : Int) : Bool := within fg 0 8 && within bg 0 8
def attrNum (a : AttrD) : Int :=
 if attrOk a.Fg a.Bg = true then 72 * a.Bg + 8 * a.Fg + (if a.Bold = true then 1 else 0) + (if a.Under = true then 2 else 0) + (if a.Turn = true then 4 else 0) else -1
def cellOk (c : CellD) : Bool := shows c.R && attrOk c.A.Fg c.A.Bg
theorem cellOk_bounds {c : CellD} (h : cellOk c = true) : 0 ≤ c.R ∧ c.R ≤ 65535 ∧ attrOk c.A.Fg c.A.Bg = true ∧ 0 ≤ attrNum c.A ∧ attrNum c.A ≤ 647 := by
 simp only [cellOk, Bool.and_eq_true] at h
 obtain ⟨h1, h2⟩ := h
 have h3 := h2
 simp [shows, within, attrOk] at h1 h2
 refine ⟨by omega, by omega, h3, ?_, ?_⟩ <;> unfold attrNum <;> rw [if_pos h3] <;> (repeat' split) <;> omega
def runB (n : Nat) (c : CellD) : List UInt8 := varL n ++ varL c.R.toNat ++ varL (attrNum c.A).toNat
def cellsGo : Nat → List CellD → List UInt8
 | _, [] => []
 | n, c :: l => if l.head? = some c then cellsGo (n + 1) l else runB (n + 1) c ++ cellsGo 0 l
def cellsB (l : List CellD) : List UInt8 := cellsGo 0 l
def cellsOk (l : List CellD) : Bool := l.all cellOk
def cellsFine (l : List CellD) : Bool := decide (l.length ≤ 4000) && cellsOk l
def cellsOut (l : List CellD) : List UInt8 := if cellsFine l = true then cellsB l else []
theorem gat_drop {l : List CellD} {i : Nat} (h : i < l.length) : l.drop i = gat encCell l i :: l.drop (i + 1) := by
 rw [List.drop_eq_getElem_cons h]; congr 1; have := gat_get (F := encCell) h; rw [List.getElem?_eq_getElem h] at this; exact Option.some.inj this
theorem cellsGo_step {n i : Nat} {l : List CellD} (h : i < l.length) : cellsGo n (l.drop i) = if i + 1 < l.length ∧ gat encCell l (i + 1) = gat encCell l i then cellsGo (n + 1) (l.drop (i + 1)) else runB (n + 1) (gat encCell l i) ++ cellsGo 0 (l.drop (i + 1)) := by
 rw [gat_drop h, cellsGo]
 by_cases h1 : i + 1 < l.length
 ·rw [gat_drop h1]
  simp [h1]
 ·rw [List.drop_eq_nil_of_le (by omega)]
  simp [h1]
theorem cellsGo_run : ∀ (m n i : Nat) {l : List CellD}, i + m < l.length → (∀ j, j ≤ m → gat encCell l (i + j) = gat encCell l i) → (i + m + 1 < l.length → gat encCell l (i + m + 1) ≠ gat encCell l i) →
  cellsGo n (l.drop i) = runB (n + m + 1) (gat encCell l i) ++ cellsGo 0 (l.drop (i + m + 1))
 | 0, n, i, l, h, _, h2 => by
  simp only [Nat.add_zero] at h h2 ⊢
  rw [cellsGo_step h, if_neg (fun hh => h2 hh.1 hh.2)]
 | m + 1, n, i, l, h, h1, h2 => by
  have e1 := h1 1 (by omega)
  rw [cellsGo_step (by omega), if_pos ⟨by omega, e1⟩, cellsGo_run m (n + 1) (i + 1) (by omega) (fun j hj => by
   have := h1 (1 + j) (by omega)
   rw [Nat.add_assoc, this, e1]) (by
   rw [e1, show i + 1 + m + 1 = i + (m + 1) + 1 by omega]; exact h2)]
  rw [e1, show i + 1 + m + 1 = i + (m + 1) + 1 by omega, show n + 1 + m + 1 = n + (m + 1) + 1 by omega]
theorem runB_len {n : Nat} {c : CellD} (h : n ≤ 4000) (hc : cellOk c = true) : (runB n c).length ≤ 15 := by
 have hb := cellOk_bounds hc
 have h1 := varL_len n (by omega)
 have h2 := varL_len c.R.toNat (by omega)
 have h3 := varL_len (attrNum c.A).toNat (by omega)
 simp only [runB, List.length_append]
 omega
theorem cellsGo_len : ∀ {l : List CellD} {n : Nat}, n + l.length ≤ 4000 → cellsOk l = true → (cellsGo n l).length ≤ 15 * l.length
 | [], n, _, _ => by simp [cellsGo]
 | c :: l, n, h, hc => by
  simp only [List.length_cons] at h
  simp only [cellsOk, List.all_cons, Bool.and_eq_true] at hc
  rw [cellsGo]
  split
  ·have := cellsGo_len (l := l) (n := n + 1) (by omega) hc.2
   simp only [List.length_cons]; omega
  ·have h1 := cellsGo_len (l := l) (n := 0) (by omega) hc.2
   have h2 := runB_len (n := n + 1) (by omega) hc.1
   simp only [List.length_append, List.length_cons]; omega
theorem cellsB_len {l : List CellD} (h : l.length ≤ 4000) (hc : cellsOk l = true) : (cellsB l).length ≤ 15 * l.length := cellsGo_len (by omega) hc
theorem cellsOk_gat {l : List CellD} {i : Nat} (h : cellsOk l = true) (hi : i < l.length) : cellOk (gat encCell l i) = true := by
 unfold cellsOk at h
 rw [List.all_eq_true] at h
 exact h _ (gat_mem hi)
theorem cellsOk_not {l : List CellD} {i : Nat} (hi : i < l.length) (h : cellOk (gat encCell l i) = false) : cellsOk l = false := by
 cases e : cellsOk l with
 | false => rfl
 | true => rw [cellsOk_gat e hi] at h; cases h
theorem cellsOk_all {l : List CellD} (h : ∀ i, i < l.length → cellOk (gat encCell l i) = true) : cellsOk l = true := by
 unfold cellsOk
 rw [List.all_eq_true]
 intro x hx
 obtain ⟨i, hi, rfl⟩ := List.mem_iff_getElem.1 hx
 have e := gat_get (F := encCell) hi
 rw [List.getElem?_eq_getElem hi] at e
 rw [Option.some.inj e]
 exact h i hi
theorem cellsOk_find {l : List CellD} : (!decide (0 ≤ findI (fun c => !cellOk c) l)) = cellsOk l := by
 rcases findI_cases (p := fun c => !cellOk c) (xs := l) with ⟨h1, h2⟩ | ⟨i, hi, h1, h2, _⟩
 ·rw [h1]
  have : cellsOk l = true := by
   unfold cellsOk
   rw [List.all_eq_true]
   intro x hx
   simpa using h2 x hx
  rw [this]; decide
 ·rw [h1]
  have : cellsOk l = false := by
   rw [← Bool.not_eq_true]
   intro h
   unfold cellsOk at h
   rw [List.all_eq_true] at h
   have := h _ (List.getElem_mem hi)
   simp [this] at h2
  rw [this]
  simp
theorem cellsOut_len (l : List CellD) : (cellsOut l).length ≤ 60000 := by
 unfold cellsOut
 split
 ·rename_i h
  simp [cellsFine] at h
  have := cellsB_len h.1 h.2
  omega
 ·simp
theorem or8 {q m r k : Nat} (hq : q = 8 * m + r) (hr : r < 2 ^ k) (hk : k < 3) : q ||| 2 ^ k = q + 2 ^ k := by
 have hk2 : 2 ^ k ≤ 4 := by
  rcases k with _ | _ | _ | k
  ·decide
  ·decide
  ·decide
  ·omega
 have e1 : 8 * m + r = 8 * m ||| r := Nat.two_pow_add_eq_or_of_lt (i := 3) (by omega) m
 have e2 : r ||| 2 ^ k = r + 2 ^ k := by
  rcases k with _ | _ | _ | k
  ·have : r = 0 := by omega
   subst this; decide
  ·have : r = 0 ∨ r = 1 := by omega
   rcases this with rfl | rfl <;> decide
  ·have : r = 0 ∨ r = 1 ∨ r = 2 ∨ r = 3 := by omega
   rcases this with rfl | rfl | rfl | rfl <;> decide
  ·omega
 have e3 : 8 * m + (r + 2 ^ k) = 8 * m ||| (r + 2 ^ k) := Nat.two_pow_add_eq_or_of_lt (i := 3) (by omega) m
 rw [hq, e1, Nat.or_assoc, e2, ← e3, ← e1]
 omega
def attrBits (a : AttrD) (i : Nat) : Int := (if 0 < i ∧ a.Bold = true then 1 else 0) + (if 1 < i ∧ a.Under = true then 2 else 0) + (if 2 < i ∧ a.Turn = true then 4 else 0)
theorem attrNum_bits {a : AttrD} (h : attrOk a.Fg a.Bg = true) : attrNum a = 72 * a.Bg + 8 * a.Fg + attrBits a 3 := by
 unfold attrNum attrBits
 rw [if_pos h]
 simp; omega
theorem attrBits_set {fg bg q : Int} {bo un tu : Bool} {i : Nat} (hfg : 0 ≤ fg) (hbg : 0 ≤ bg) (h : q = 72 * bg + 8 * fg + attrBits ⟨fg, bg, bo, un, tu⟩ i) (hi : i < 3) (hb : gat encT [bo, un, tu] i = true) :
  ((q.toNat ||| (1 * 2 ^ i : Int).toNat : Nat) : Int) = 72 * bg + 8 * fg + attrBits ⟨fg, bg, bo, un, tu⟩ (i + 1) := by
 have e : ((1 * 2 ^ i : Int).toNat : Nat) = 2 ^ i := by rcases i with _ | _ | _ | i <;> first | rfl | omega
 have hr : ∃ r : Nat, attrBits ⟨fg, bg, bo, un, tu⟩ i = (r : Int) ∧ r < 2 ^ i := by
  rcases i with _ | _ | _ | i
  ·exact ⟨0, by simp [attrBits], by decide⟩
  ·cases bo
   ·exact ⟨0, by simp [attrBits], by decide⟩
   ·exact ⟨1, by simp [attrBits], by decide⟩
  ·cases bo <;> cases un
   ·exact ⟨0, by simp [attrBits], by decide⟩
   ·exact ⟨2, by simp [attrBits], by decide⟩
   ·exact ⟨1, by simp [attrBits], by decide⟩
   ·exact ⟨3, by simp [attrBits], by decide⟩
  ·omega
 obtain ⟨r, hr1, hr2⟩ := hr
 rw [e, or8 (m := (9 * bg + fg).toNat) (r := r) (by omega) hr2 hi]
 have hn : attrBits ⟨fg, bg, bo, un, tu⟩ (i + 1) = attrBits ⟨fg, bg, bo, un, tu⟩ i + ((2 ^ i : Nat) : Int) := by
  rcases i with _ | _ | _ | i
  ·simp [gat] at hb; simp [attrBits, hb]
  ·simp [gat] at hb; simp [attrBits, hb]
  ·simp [gat] at hb; simp [attrBits, hb]
  ·omega
 rw [hn]
 omega
theorem attrBits_skip {fg bg : Int} {bo un tu : Bool} {i : Nat} (hi : i < 3) (hb : gat encT [bo, un, tu] i = false) : attrBits ⟨fg, bg, bo, un, tu⟩ (i + 1) = attrBits ⟨fg, bg, bo, un, tu⟩ i := by
 rcases i with _ | _ | _ | i
 ·simp [gat] at hb; simp [attrBits, hb]
 ·simp [gat] at hb; simp [attrBits, hb]
 ·simp [gat] at hb; simp [attrBits, hb]
 ·omega
def leafOk (n : NodeD) : Bool := isId n.Pane && !n.Down && decide (n.First = 0)
def nodeOk (n : NodeD) : Bool := if n.Pane = 0 then within n.First 1 120 else leafOk n
inductive Tr where
  | leaf (n : NodeD)
  | split (n : NodeD) (a b : Tr)
def Tr.flat : Tr → List NodeD
  | .leaf n => [n]
  | .split n a b => n :: (a.flat ++ b.flat)
def Tr.shaped : Tr → Prop
  | .leaf n => n.Pane ≠ 0
  | .split n a b => n.Pane = 0 ∧ a.shaped ∧ b.shaped
theorem Tr.flat_pos : ∀ (T : Tr), 0 < T.flat.length
  | .leaf n => by simp [flat]
  | .split n a b => by simp [flat]
def skipF (ok : NodeD → Bool) : Nat → List NodeD → Option (List NodeD)
  | 0, _ => none
  | _ + 1, [] => none
  | k + 1, n :: r => if ok n = false then none else if n.Pane ≠ 0 then some r else (skipF ok k r).bind (skipF ok k)
theorem skipF_flat {ok : NodeD → Bool} : ∀ {T : Tr} {k : Nat} {r : List NodeD}, T.shaped → (∀ n, n ∈ T.flat → ok n = true) → T.flat.length ≤ k → skipF ok k (T.flat ++ r) = some r
  | .leaf n, k, r, hs, ho, hk => by
    cases k with
    | zero => simp [Tr.flat] at hk
    | succ k =>
      have := ho n (by simp [Tr.flat])
      simp only [Tr.shaped] at hs
      simp [Tr.flat, skipF, this, hs]
  | .split n a b, k, r, hs, ho, hk => by
    cases k with
    | zero => simp [Tr.flat] at hk
    | succ k =>
      obtain ⟨h0, h1, h2⟩ := hs
      simp only [Tr.flat, List.length_cons, List.length_append] at hk
      have hn := ho n (by simp [Tr.flat])
      have ha := skipF_flat (T := a) (k := k) (r := b.flat ++ r) h1 (fun m hm => ho m (by simp [Tr.flat, hm])) (by omega)
      have hb := skipF_flat (T := b) (k := k) (r := r) h2 (fun m hm => ho m (by simp [Tr.flat, hm])) (by omega)
      simp only [Tr.flat, List.cons_append, List.append_assoc, skipF, hn, h0, ha, hb, Option.bind]
      simp
theorem skipF_some {ok : NodeD → Bool} : ∀ {k : Nat} {l r : List NodeD}, skipF ok k l = some r → ∃ T : Tr, T.shaped ∧ (∀ n, n ∈ T.flat → ok n = true) ∧ l = T.flat ++ r
  | 0, l, r, h => by simp [skipF] at h
  | k + 1, [], r, h => by simp [skipF] at h
  | k + 1, n :: l, r, h => by
    rw [skipF] at h
    split at h
    · cases h
    · rename_i ho
      have ho : ok n = true := by simpa using ho
      split at h
      · rename_i hp
        obtain rfl := Option.some.inj h
        exact ⟨.leaf n, hp, by simpa [Tr.flat] using ho, rfl⟩
      · rename_i hp
        have hp : n.Pane = 0 := by simpa using hp
        obtain ⟨m, h1, h2⟩ := Option.bind_eq_some_iff.1 h
        obtain ⟨a, ha, hao, rfl⟩ := skipF_some h1
        obtain ⟨b, hb, hbo, rfl⟩ := skipF_some h2
        refine ⟨.split n a b, ⟨hp, ha, hb⟩, ?_, by simp [Tr.flat]⟩
        intro m hm
        simp only [Tr.flat, List.mem_cons, List.mem_append] at hm
        rcases hm with rfl | hm | hm
        · exact ho
        · exact hao m hm
        · exact hbo m hm
theorem skipF_more {ok : NodeD → Bool} {k k' : Nat} {l : List NodeD} (h : l.length ≤ k) (h' : l.length ≤ k') : skipF ok k l = skipF ok k' l := by
  have key : ∀ {k k' : Nat} {r : List NodeD}, l.length ≤ k' → skipF ok k l = some r → skipF ok k' l = some r := by
    intro k k' r hk hr
    obtain ⟨T, hT, ho, rfl⟩ := skipF_some hr
    rw [List.length_append] at hk
    exact skipF_flat hT ho (by omega)
  cases e : skipF ok k l with
  | some r => exact (key h' e).symm
  | none =>
    cases e' : skipF ok k' l with
    | none => rfl
    | some r => rw [key h e'] at e; cases e
def needGo : Nat → List NodeD → Option (List NodeD)
  | _, [] => none
  | need, n :: r => if (if n.Pane = 0 then need + 1 else need - 1) = 0 then some r else needGo (if n.Pane = 0 then need + 1 else need - 1) r
theorem needGo_flat : ∀ {T : Tr} {k : Nat} {r : List NodeD}, T.shaped → needGo (k + 1) (T.flat ++ r) = if k = 0 then some r else needGo k r
  | .leaf n, k, r, hs => by
    simp only [Tr.shaped] at hs
    simp [Tr.flat, needGo, hs]
  | .split n a b, k, r, hs => by
    obtain ⟨h0, h1, h2⟩ := hs
    have ha := needGo_flat (T := a) (k := k + 1) (r := b.flat ++ r) h1
    have hb := needGo_flat (T := b) (k := k) (r := r) h2
    simp only [Tr.flat, List.cons_append, List.append_assoc, needGo, h0, if_true]
    rw [if_neg (by omega), ha, if_neg (by omega), hb]
theorem needGo_some : ∀ {l r : List NodeD} {k : Nat}, needGo (k + 1) l = some r → ∃ (T : Tr) (l' : List NodeD), T.shaped ∧ l = T.flat ++ l' ∧ (if k = 0 then l' = r else needGo k l' = some r)
  | [], r, k, h => by simp [needGo] at h
  | n :: l, r, k, h => by
    rw [needGo] at h
    by_cases hp : n.Pane = 0
    · simp only [if_pos hp] at h
      rw [if_neg (by omega)] at h
      obtain ⟨a, l1, ha, rfl, h1⟩ := needGo_some (k := k + 1) h
      rw [if_neg (by omega)] at h1
      have hl : l1.length < (n :: (a.flat ++ l1)).length := by simp; omega
      obtain ⟨b, l2, hb, rfl, h2⟩ := needGo_some (k := k) h1
      exact ⟨.split n a b, l2, ⟨hp, ha, hb⟩, by simp [Tr.flat], h2⟩
    · simp only [if_neg hp] at h
      refine ⟨.leaf n, l, hp, rfl, ?_⟩
      by_cases hk : k = 0
      · subst hk
        simp at h
        rw [if_pos rfl]; exact h
      · rw [if_neg hk]
        rw [Nat.add_sub_cancel, if_neg hk] at h
        exact h
termination_by l => l.length
def endOfL (t : List NodeD) (o : Option (List NodeD)) : Int := match o with | some r => (t.length : Int) - r.length | none => -1
def endI (t : List NodeD) (at_ : Int) : Int := if 0 ≤ at_ ∧ at_ < t.length then endOfL t (skipF nodeOk t.length (t.drop at_.toNat)) else -1
def sEnd (t : List NodeD) (at_ : Nat) : Int := endOfL t (needGo 1 (t.drop at_))
theorem nat_drop {t : List NodeD} {i : Nat} (h : i < t.length) : t.drop i = gat encNode t i :: t.drop (i + 1) := by
  rw [List.drop_eq_getElem_cons h]; congr 1; have := gat_get (F := encNode) h; rw [List.getElem?_eq_getElem h] at this; exact Option.some.inj this
theorem endI_out {t : List NodeD} {at_ : Int} (h : ¬ (0 ≤ at_ ∧ at_ < t.length)) : endI t at_ = -1 := if_neg h
theorem endI_leaf {t : List NodeD} {i : Nat} (h : i < t.length) (hp : (gat encNode t i).Pane ≠ 0) : endI t i = if leafOk (gat encNode t i) = true then (i : Int) + 1 else -1 := by
  rw [endI, if_pos ⟨by omega, by omega⟩, Int.toNat_natCast, nat_drop h]
  obtain ⟨k, hk⟩ : ∃ k, t.length = k + 1 := ⟨t.length - 1, by omega⟩
  rw [hk, skipF, nodeOk, if_neg hp]
  cases e : leafOk (gat encNode t i)
  · simp [endOfL]
  · simp [hp, endOfL]; omega
theorem endI_bad {t : List NodeD} {i : Nat} (h : i < t.length) (hp : (gat encNode t i).Pane = 0) (hf : within (gat encNode t i).First 1 120 = false) : endI t i = -1 := by
  rw [endI, if_pos ⟨by omega, by omega⟩, Int.toNat_natCast, nat_drop h]
  obtain ⟨k, hk⟩ : ∃ k, t.length = k + 1 := ⟨t.length - 1, by omega⟩
  rw [hk, skipF, nodeOk, if_pos hp, hf]
  simp [endOfL]
theorem endI_range {t : List NodeD} {at_ : Int} : endI t at_ = -1 ∨ at_ < endI t at_ ∧ endI t at_ ≤ t.length ∧ 0 ≤ at_ := by
  by_cases h : 0 ≤ at_ ∧ at_ < t.length
  · rw [endI, if_pos h]
    cases e : skipF nodeOk t.length (t.drop at_.toNat) with
    | none => exact Or.inl rfl
    | some r =>
      obtain ⟨T, hT, _, hl⟩ := skipF_some e
      have h1 := congrArg List.length hl
      have h2 := T.flat_pos
      rw [List.length_drop, List.length_append] at h1
      simp only [endOfL]
      exact Or.inr ⟨by omega, by omega, h.1⟩
  · exact Or.inl (endI_out h)
theorem endI_split {t : List NodeD} {i : Nat} (h : i < t.length) (hp : (gat encNode t i).Pane = 0) (hf : within (gat encNode t i).First 1 120 = true) : endI t i = endI t (endI t ((i : Int) + 1)) := by
  rw [endI, if_pos ⟨by omega, by omega⟩, Int.toNat_natCast, nat_drop h]
  obtain ⟨k, hk⟩ : ∃ k, t.length = k + 1 := ⟨t.length - 1, by omega⟩
  rw [hk, skipF, nodeOk, if_pos hp, hf]
  simp only [Bool.true_eq_false, if_false, ne_eq, hp, not_true_eq_false]
  have hd : (t.drop (i + 1)).length ≤ k := by rw [List.length_drop]; omega
  rw [skipF_more (k := k) (k' := t.length) hd (by rw [List.length_drop]; omega)]
  by_cases hi : i + 1 < t.length
  · have e1 : endI t ((i : Int) + 1) = endOfL t (skipF nodeOk t.length (t.drop (i + 1))) := by
      rw [endI, if_pos ⟨by omega, by omega⟩, show ((i : Int) + 1).toNat = i + 1 by omega]
    rw [e1]
    cases e : skipF nodeOk t.length (t.drop (i + 1)) with
    | none =>
      rw [endOfL, endI_out (by omega)]
      rfl
    | some r =>
      obtain ⟨T, hT, _, hl⟩ := skipF_some e
      have h1 := congrArg List.length hl
      have h2 := T.flat_pos
      rw [List.length_drop, List.length_append] at h1
      have hr : r = t.drop (t.length - r.length) := by
        have e2 : t.length - r.length = (i + 1) + T.flat.length := by omega
        rw [e2, ← List.drop_drop, hl, List.drop_left]
      simp only [Option.bind, endOfL]
      by_cases hr0 : r.length = 0
      · have : r = [] := List.eq_nil_of_length_eq_zero hr0
        subst this
        rw [endI_out (by simp)]
        obtain ⟨k', hk'⟩ : ∃ k', k = k' + 1 := ⟨k - 1, by omega⟩
        rw [hk', skipF]
      · rw [endI, if_pos ⟨by omega, by omega⟩, show ((t.length : Int) - r.length).toNat = t.length - r.length by omega, ← hr, skipF_more (k := k) (k' := t.length) (by omega) (by omega)]
        rfl
  · have e1 : endI t ((i : Int) + 1) = -1 := endI_out (by omega)
    rw [e1, endI_out (by omega), List.drop_eq_nil_of_le (by omega)]
    obtain ⟨k', hk'⟩ : ∃ k', t.length = k' + 1 := ⟨t.length - 1, by omega⟩
    rw [hk', skipF]
    rfl
def panesL (t : List NodeD) : List Int := (t.filter fun n => decide (n.Pane ≠ 0)).map (·.Pane)
def treeOk (t : List NodeD) : Bool := decide (t.length ≤ 31) && decide (endI t 0 = t.length) && decide (panesL t).Nodup
def Valid (t : List NodeD) (T : Tr) : Prop := T.shaped ∧ (∀ n, n ∈ t → nodeOk n = true) ∧ T.flat = t
theorem panesL_take {t : List NodeD} {i : Nat} (h : i < t.length) : panesL (t.take (i + 1)) = panesL (t.take i) ++ (if (gat encNode t i).Pane ≠ 0 then [(gat encNode t i).Pane] else []) := by
  unfold panesL
  rw [List.take_add_one, gat_get (F := encNode) h, List.filter_append, List.map_append]
  congr 1
  by_cases h : (gat encNode t i).Pane = 0 <;> simp [h]
theorem endI_zero {t : List NodeD} : endI t 0 = t.length ↔ ∃ T, Valid t T := by
  constructor
  · intro h
    by_cases h0 : 0 < t.length
    · rw [endI, if_pos ⟨by omega, by omega⟩] at h
      cases e : skipF nodeOk t.length (t.drop (0 : Int).toNat) with
      | none => rw [e] at h; simp only [endOfL] at h; omega
      | some r =>
        rw [e] at h
        obtain ⟨T, hT, ho, hl⟩ := skipF_some e
        simp only [endOfL] at h
        have : r = [] := List.eq_nil_of_length_eq_zero (by omega)
        subst this
        simp at hl
        exact ⟨T, hT, by rw [hl]; exact ho, hl.symm⟩
    · rw [endI_out (by omega)] at h
      omega
  · rintro ⟨T, hT, ho, rfl⟩
    have h0 := T.flat_pos
    have := skipF_flat (ok := nodeOk) (T := T) (k := T.flat.length) (r := []) hT ho (Nat.le_refl _)
    rw [endI, if_pos ⟨by omega, by omega⟩]
    simp only [Int.toNat_zero, List.drop_zero]
    rw [List.append_nil] at this
    rw [this]
    simp [endOfL]
theorem sEnd_zero {t : List NodeD} : sEnd t 0 = t.length ↔ ∃ T : Tr, T.shaped ∧ T.flat = t := by
  constructor
  · intro h
    rw [sEnd] at h
    cases e : needGo 1 (t.drop 0) with
    | none => rw [e] at h; simp only [endOfL] at h; omega
    | some r =>
      rw [e] at h
      obtain ⟨T, l', hT, hl, h1⟩ := needGo_some (k := 0) e
      rw [if_pos rfl] at h1
      subst h1
      simp only [endOfL] at h
      have : l' = [] := List.eq_nil_of_length_eq_zero (by omega)
      subst this
      simp at hl
      exact ⟨T, hT, hl.symm⟩
  · rintro ⟨T, hT, rfl⟩
    have := needGo_flat (T := T) (k := 0) (r := []) hT
    rw [if_pos rfl, List.append_nil] at this
    rw [sEnd, List.drop_zero]
    rw [show needGo 1 T.flat = some [] from this]
    simp [endOfL]
theorem treeOk_iff {t : List NodeD} : treeOk t = true ↔ t.length ≤ 31 ∧ (∃ T, Valid t T) ∧ (panesL t).Nodup := by
  simp only [treeOk, Bool.and_eq_true, decide_eq_true_eq, endI_zero, and_assoc]
theorem treeOk_mk {t : List NodeD} (h1 : t.length ≤ 31) (h2 : sEnd t 0 = t.length) (h3 : ∀ i, i < t.length → nodeOk (gat encNode t i) = true) (h4 : (panesL t).Nodup) : treeOk t = true := by
  obtain ⟨T, hT, hf⟩ := sEnd_zero.1 h2
  refine treeOk_iff.2 ⟨h1, ⟨T, hT, fun n hn => ?_, hf⟩, h4⟩
  obtain ⟨i, hi, rfl⟩ := List.mem_iff_getElem.1 hn
  have e := gat_get (F := encNode) hi
  rw [List.getElem?_eq_getElem hi] at e
  rw [Option.some.inj e]
  exact h3 i hi
theorem treeOk_len {t : List NodeD} (h : treeOk t = true) : t.length ≤ 31 := (treeOk_iff.1 h).1
theorem treeOk_sEnd {t : List NodeD} (h : treeOk t = true) : sEnd t 0 = t.length := by
  obtain ⟨_, ⟨T, hT, _, hf⟩, _⟩ := treeOk_iff.1 h
  exact sEnd_zero.2 ⟨T, hT, hf⟩
theorem treeOk_node {t : List NodeD} (h : treeOk t = true) {i : Nat} (hi : i < t.length) : nodeOk (gat encNode t i) = true := by
  obtain ⟨_, ⟨T, hT, ho, hf⟩, _⟩ := treeOk_iff.1 h
  exact ho _ (gat_mem hi)
theorem treeOk_nodup {t : List NodeD} (h : treeOk t = true) : (panesL t).Nodup := (treeOk_iff.1 h).2.2
theorem panesL_sub {t : List NodeD} {i : Nat} : (panesL (t.take i)).Sublist (panesL t) := by
  unfold panesL
  exact ((List.take_sublist i t).filter _).map _
theorem nodeOk_pane {n : NodeD} (h : nodeOk n = true) : 0 ≤ n.Pane ∧ n.Pane ≤ 1000000 ∧ 0 ≤ n.First ∧ n.First ≤ 120 := by
  unfold nodeOk leafOk isId at h
  split at h <;> simp [within] at h <;> omega
def adjNe (l : List Int) : Prop := ∀ i, i + 1 < l.length → iat l (i + 1) ≠ iat l i
theorem iat_getElem {l : List Int} {i : Nat} (h : i < l.length) : iat l i = l[i] := by
  have e := gat_get (F := encI) h
  rw [List.getElem?_eq_getElem h] at e
  exact (Option.some.inj e).symm
theorem sorted_adj {l : List Int} (hs : l.Pairwise (· ≤ ·)) : adjNe l ↔ l.Nodup := by
  rw [List.Nodup]
  constructor
  · intro h
    rw [List.pairwise_iff_getElem] at hs ⊢
    intro i j hi hj hij
    have h1 := h i (by omega)
    rw [iat_getElem (by omega), iat_getElem (by omega)] at h1
    have h2 := hs i (i + 1) (by omega) (by omega) (by omega)
    rcases Nat.lt_or_ge (i + 1) j with h3 | h3
    · have := hs (i + 1) j (by omega) hj h3
      omega
    · obtain rfl : j = i + 1 := by omega
      omega
  · intro h i hi
    rw [iat_getElem (by omega), iat_getElem (by omega)]
    have := List.pairwise_iff_getElem.1 h i (i + 1) (by omega) hi (by omega)
    exact fun e => this e.symm
def sortI (l : List Int) : List Int := l.mergeSort fun x y => decide (x ≤ y)
theorem sortI_perm (l : List Int) : (sortI l).Perm l := List.mergeSort_perm _ _
theorem sortI_len (l : List Int) : (sortI l).length = l.length := (sortI_perm l).length_eq
theorem sortI_sorted (l : List Int) : (sortI l).Pairwise (· ≤ ·) := by
  have := List.pairwise_mergeSort (le := fun x y : Int => decide (x ≤ y)) (fun a b c h1 h2 => by simp at *; omega) (fun a b => by simp; omega) l
  exact this.imp (fun h => by simpa using h)
theorem sortI_adj {l : List Int} : adjNe (sortI l) ↔ l.Nodup := (sorted_adj (sortI_sorted l)).trans (sortI_perm l).nodup_iff
def leavesL (t : List NodeD) : List Int := if treeOk t = true then panesL t else []
theorem panesL_len (t : List NodeD) : (panesL t).length ≤ t.length := by
  unfold panesL
  rw [List.length_map]
  exact List.length_filter_le _ _
theorem leavesL_len (t : List NodeD) : (leavesL t).length ≤ 31 := by
  unfold leavesL
  split
  · rename_i h
    have := treeOk_len h
    have := panesL_len t
    omega
  · simp
theorem nodup_snoc {l : List Int} {x : Int} (h : l.Nodup) (hx : x ∉ l) : (l ++ [x]).Nodup := by
  rw [List.nodup_append]
  refine ⟨h, by simp, fun a ha b hb => ?_⟩
  simp at hb
  subst hb
  exact fun e => hx (e ▸ ha)
def leafB (n : NodeD) : Bool := decide (1 ≤ n.Pane) && decide (n.Pane ≤ 1000000) && !n.Down && decide (n.First = 0)
def splitB (n : NodeD) : Bool := decide (n.Pane = 0) && decide (1 ≤ n.First) && decide (n.First ≤ 120)
theorem nodeOk_or (n : NodeD) : nodeOk n = (leafB n || splitB n) := by
  rw [Bool.eq_iff_iff]
  unfold nodeOk leafOk isId within leafB splitB
  by_cases h : n.Pane = 0
  · simp [h]
  · simp [h]
theorem leafB_ne {n : NodeD} (h : leafB n = true) : n.Pane ≠ 0 := by
  simp [leafB] at h; omega
theorem leafB_not {n : NodeD} (h : leafB n = false) (hn : nodeOk n = true) : n.Pane = 0 := by
  rw [nodeOk_or, h, Bool.false_or] at hn
  simp [splitB] at hn
  exact hn.1.1
theorem node_step {n : NodeD} {zs : List Int} (h : (!leafB n && !splitB n || leafB n && decide (n.Pane ∈ zs)) = false) : nodeOk n = true ∧ (leafB n = true → n.Pane ∉ zs) := by
  rw [nodeOk_or]
  cases h1 : leafB n <;> cases h2 : splitB n <;> simp_all
theorem node_bad {t : List NodeD} {i : Nat} (hi : i < t.length) (h : (!leafB (gat encNode t i) && !splitB (gat encNode t i) || leafB (gat encNode t i) && decide ((gat encNode t i).Pane ∈ panesL (t.take i))) = true) : treeOk t = false := by
  cases ht : treeOk t with
  | false => rfl
  | true =>
    exfalso
    have h1 := treeOk_node ht hi
    have h2 := (treeOk_nodup ht).sublist (panesL_sub (i := i + 1))
    rw [nodeOk_or] at h1
    cases hl : leafB (gat encNode t i) with
    | false => rw [hl, Bool.false_or] at h1; rw [hl, h1] at h; simp at h
    | true =>
      rw [hl] at h
      rw [panesL_take hi, if_pos (leafB_ne hl), List.nodup_append] at h2
      simp at h
      exact h2.2.2 _ h _ (by simp) rfl
theorem findI_lt {α : Type} {p : α → Bool} {xs : List α} : -1 ≤ findI p xs ∧ findI p xs < xs.length := by
  rcases findI_cases (p := p) (xs := xs) with ⟨h, _⟩ | ⟨i, hi, h, _⟩ <;> omega
def atL (t : List NodeD) (p : Int) : Int := findI (fun n => !decide (n.Pane = 0) && decide (n.Pane = p)) t
theorem sub_at : ∀ {T : Tr} {i : Nat}, T.shaped → i < T.flat.length → ∃ (S : Tr) (r : List NodeD), S.shaped ∧ (∀ n, n ∈ S.flat → n ∈ T.flat) ∧ T.flat.drop i = S.flat ++ r
  | .leaf n, i, hs, hi => by
    have : i = 0 := by simp [Tr.flat] at hi; omega
    subst this
    exact ⟨.leaf n, [], hs, fun _ h => h, by simp⟩
  | .split n a b, 0, hs, hi => ⟨.split n a b, [], hs, fun _ h => h, by simp⟩
  | .split n a b, i + 1, hs, hi => by
    obtain ⟨h0, h1, h2⟩ := hs
    simp only [Tr.flat, List.length_cons, List.length_append] at hi
    simp only [Tr.flat, List.drop_succ_cons]
    rcases Nat.lt_or_ge i a.flat.length with h | h
    · obtain ⟨S, r, hS, hm, hd⟩ := sub_at h1 h
      refine ⟨S, r ++ b.flat, hS, fun n hn => by simp [hm n hn], ?_⟩
      rw [List.drop_append_of_le_length (by omega), hd, List.append_assoc]
    · obtain ⟨S, r, hS, hm, hd⟩ := sub_at h2 (show i - a.flat.length < b.flat.length by omega)
      refine ⟨S, r, hS, fun n hn => by simp [hm n hn], ?_⟩
      rw [List.drop_append, List.drop_eq_nil_of_le (by omega), List.nil_append, hd]
structure At (t : List NodeD) (i : Nat) (S : Tr) : Prop where
  shaped : S.shaped
  ok : ∀ n, n ∈ S.flat → nodeOk n = true
  drop : ∃ r, t.drop i = S.flat ++ r
theorem Valid.at_ {t : List NodeD} {T : Tr} (h : Valid t T) {i : Nat} (hi : i < t.length) : ∃ S, At t i S := by
  obtain ⟨hT, ho, rfl⟩ := h
  obtain ⟨S, r, hS, hm, hd⟩ := sub_at hT hi
  exact ⟨S, hS, fun n hn => ho n (hm n hn), r, hd⟩
theorem At.le {t : List NodeD} {i : Nat} {S : Tr} (h : At t i S) : i + S.flat.length ≤ t.length := by
  obtain ⟨r, hr⟩ := h.drop
  have := congrArg List.length hr
  have h0 := S.flat_pos
  rw [List.length_drop, List.length_append] at this
  omega
theorem At.lt {t : List NodeD} {i : Nat} {S : Tr} (h : At t i S) : i < t.length := by
  have := h.le
  have := S.flat_pos
  omega
theorem At.endI {t : List NodeD} {i : Nat} {S : Tr} (h : At t i S) : endI t i = (i + S.flat.length : Nat) := by
  obtain ⟨r, hr⟩ := h.drop
  have h1 := h.le
  have h2 := h.lt
  have h3 := congrArg List.length hr
  rw [List.length_drop, List.length_append] at h3
  rw [Go.Proofs.YthfhhldbglaieaaGreat.endI, if_pos ⟨by omega, by omega⟩, Int.toNat_natCast, hr, skipF_flat h.shaped h.ok (by omega)]
  simp only [endOfL]
  omega
theorem At.sEnd {t : List NodeD} {i : Nat} {S : Tr} (h : At t i S) : sEnd t i = (i + S.flat.length : Nat) := by
  obtain ⟨r, hr⟩ := h.drop
  have h1 := h.le
  have h3 := congrArg List.length hr
  rw [List.length_drop, List.length_append] at h3
  have := needGo_flat (T := S) (k := 0) (r := r) h.shaped
  rw [if_pos rfl] at this
  rw [Go.Proofs.YthfhhldbglaieaaGreat.sEnd, hr, this]
  simp only [endOfL]
  omega
theorem At.head {t : List NodeD} {i : Nat} {S : Tr} (h : At t i S) : S.flat.head? = some (gat encNode t i) := by
  obtain ⟨r, hr⟩ := h.drop
  rw [nat_drop h.lt] at hr
  cases S with
  | leaf n => simp [Tr.flat] at hr ⊢; exact hr.1.symm
  | split n a b => simp [Tr.flat] at hr ⊢; exact hr.1.symm
theorem At.parts {t : List NodeD} {i : Nat} {n : NodeD} {a b : Tr} (h : At t i (.split n a b)) : gat encNode t i = n ∧ At t (i + 1) a ∧ At t (i + 1 + a.flat.length) b := by
  obtain ⟨h0, h1, h2⟩ := h.shaped
  obtain ⟨r, hr⟩ := h.drop
  have hh := h.head
  simp [Tr.flat] at hh
  have hd : t.drop (i + 1) = a.flat ++ (b.flat ++ r) := by
    rw [← List.drop_drop, hr]
    simp [Tr.flat]
  refine ⟨hh.symm, ⟨h1, fun m hm => h.ok m (by simp [Tr.flat, hm]), _, hd⟩, ⟨h2, fun m hm => h.ok m (by simp [Tr.flat, hm]), r, ?_⟩⟩
  rw [← List.drop_drop, hd, List.drop_left]
def isSplit (t : List NodeD) (i : Nat) : Bool := decide ((gat encNode t i).Pane = 0)
theorem At.of_split {t : List NodeD} {i : Nat} {S : Tr} (h : At t i S) (hp : isSplit t i = true) : ∃ n a b, S = .split n a b := by
  have hh := h.head
  cases S with
  | leaf n =>
    simp [Tr.flat] at hh
    have := h.shaped
    simp only [Tr.shaped] at this
    rw [isSplit, ← hh] at hp
    exact absurd (by simpa using hp) this
  | split n a b => exact ⟨n, a, b, rfl⟩
theorem At.of_leaf {t : List NodeD} {i : Nat} {S : Tr} (h : At t i S) (hp : isSplit t i = false) : S = .leaf (gat encNode t i) := by
  have hh := h.head
  cases S with
  | leaf n => simp [Tr.flat] at hh; rw [hh]
  | split n a b =>
    simp [Tr.flat] at hh
    have := h.shaped.1
    rw [isSplit, ← hh] at hp
    exact absurd this (by simpa using hp)
def isOver (t : List NodeD) (at_ i : Nat) : Bool := isSplit t i && decide (endI t i > at_)
def lastI (p : Nat → Bool) : Nat → Int
  | 0 => -1
  | k + 1 => if p k = true then (k : Int) else lastI p k
def sizeR (n : NodeD) (r : RectD) : Int := if n.Down = true then r.H else r.W
def firstR (n : NodeD) (r : RectD) : RectD := if n.Down = true then { r with H := min n.First (r.H - 2) } else { r with W := min n.First (r.W - 2) }
def secondR (n : NodeD) (r : RectD) : RectD :=
  if n.Down = true then { r with Y := r.Y + min n.First (r.H - 2) + 1, H := r.H - min n.First (r.H - 2) - 1 } else { r with X := r.X + min n.First (r.W - 2) + 1, W := r.W - min n.First (r.W - 2) - 1 }
structure Fine (r : RectD) : Prop where
  pane : r.Pane = 0
  x : 0 ≤ r.X
  y : 0 ≤ r.Y
  w : 1 ≤ r.W
  h : 1 ≤ r.H
  xw : r.X + r.W ≤ 120
  yh : r.Y + r.H ≤ 120
theorem Fine.first {r : RectD} {n : NodeD} (h : Fine r) (hf : 1 ≤ n.First) (hs : 3 ≤ sizeR n r) : Fine (firstR n r) := by
  obtain ⟨h0, h1, h2, h3, h4, h5, h6⟩ := h
  unfold sizeR at hs
  unfold firstR
  split at hs <;> rename_i hd <;> simp only [hd] <;> constructor <;> simp <;> omega
theorem Fine.second {r : RectD} {n : NodeD} (h : Fine r) (hf : 1 ≤ n.First) (hs : 3 ≤ sizeR n r) : Fine (secondR n r) := by
  obtain ⟨h0, h1, h2, h3, h4, h5, h6⟩ := h
  unfold sizeR at hs
  unfold secondR
  split at hs <;> rename_i hd <;> simp only [hd] <;> constructor <;> simp <;> omega
def putL : Tr → RectD → List RectD × Bool
  | .leaf n, r => ([{ r with Pane := n.Pane }], true)
  | .split n a b, r =>
    if 3 ≤ sizeR n r then
      if (putL a (firstR n r)).2 = true then ({ r with Pane := n.Pane } :: ((putL a (firstR n r)).1 ++ (putL b (secondR n r)).1), (putL b (secondR n r)).2)
      else ({ r with Pane := n.Pane } :: (putL a (firstR n r)).1, false)
    else ([{ r with Pane := n.Pane }], false)
def placeS : Tr → RectD → List RectD × Bool
  | .leaf n, r => ([{ r with Pane := n.Pane }], true)
  | .split n a b, r => if 3 ≤ sizeR n r then ((placeS a (firstR n r)).1 ++ (placeS b (secondR n r)).1, (placeS a (firstR n r)).2 && (placeS b (secondR n r)).2) else ([], false)
def isLeafR (r : RectD) : Bool := decide (r.Pane ≠ 0)
theorem put_place : ∀ {T : Tr} {r : RectD}, T.shaped → (putL T r).2 = (placeS T r).2 ∧ ((placeS T r).2 = true → (putL T r).1.filter isLeafR = (placeS T r).1)
  | .leaf n, r, h => by
    simp only [Tr.shaped] at h
    simp [putL, placeS, isLeafR, h]
  | .split n a b, r, h => by
    obtain ⟨h0, h1, h2⟩ := h
    obtain ⟨e1, e2⟩ := put_place (T := a) (r := firstR n r) h1
    obtain ⟨e3, e4⟩ := put_place (T := b) (r := secondR n r) h2
    simp only [putL, placeS]
    by_cases hs : 3 ≤ sizeR n r
    · simp only [hs, if_true]
      cases ea : (placeS a (firstR n r)).2 with
      | false =>
        rw [ea] at e1
        simp [e1]
      | true =>
        rw [ea] at e1
        simp only [e1, if_true, Bool.true_and]
        refine ⟨e3, fun hb => ?_⟩
        rw [List.filter_cons, if_neg (by simp [isLeafR, h0]), List.filter_append, e2 ea, e4 hb]
    · simp [hs]
theorem putL_len : ∀ {T : Tr} {r : RectD}, (putL T r).1.length ≤ T.flat.length
  | .leaf n, r => by simp [putL, Tr.flat]
  | .split n a b, r => by
    have h1 := putL_len (T := a) (r := firstR n r)
    have h2 := putL_len (T := b) (r := secondR n r)
    simp only [putL, Tr.flat, List.length_cons, List.length_append]
    (repeat' split) <;> simp <;> omega
theorem placeS_len : ∀ {T : Tr} {r : RectD}, (placeS T r).1.length ≤ T.flat.length
  | .leaf n, r => by simp [placeS, Tr.flat]
  | .split n a b, r => by
    have h1 := placeS_len (T := a) (r := firstR n r)
    have h2 := placeS_len (T := b) (r := secondR n r)
    simp only [placeS, Tr.flat, List.length_cons, List.length_append]
    split <;> simp <;> omega
def cutOk (t : List NodeD) (p : Int) : Bool := treeOk t && decide (1 ≤ atL t p)
def upL (t : List NodeD) (p : Int) : Nat := (lastI (isOver t (atL t p).toNat) (atL t p).toNat).toNat
def cutL (t : List NodeD) (p : Int) : List NodeD :=
  if cutOk t p = true then t.take (upL t p) ++ (t.drop (upL t p + 1)).take ((atL t p).toNat - (upL t p + 1)) ++ t.drop ((atL t p).toNat + 1) else []
def parseF : Nat → List NodeD → Option (Tr × List NodeD)
  | 0, _ => none
  | _ + 1, [] => none
  | k + 1, n :: r => if n.Pane ≠ 0 then some (.leaf n, r) else match parseF k r with
    | none => none
    | some (a, r1) => match parseF k r1 with
      | none => none
      | some (b, r2) => some (.split n a b, r2)
theorem parseF_flat : ∀ {T : Tr} {k : Nat} {r : List NodeD}, T.shaped → T.flat.length ≤ k → parseF k (T.flat ++ r) = some (T, r)
  | .leaf n, k, r, hs, hk => by
    cases k with
    | zero => simp [Tr.flat] at hk
    | succ k =>
      simp only [Tr.shaped] at hs
      simp [Tr.flat, parseF, hs]
  | .split n a b, k, r, hs, hk => by
    cases k with
    | zero => simp [Tr.flat] at hk
    | succ k =>
      obtain ⟨h0, h1, h2⟩ := hs
      simp only [Tr.flat, List.length_cons, List.length_append] at hk
      have ha := parseF_flat (T := a) (k := k) (r := b.flat ++ r) h1 (by omega)
      have hb := parseF_flat (T := b) (k := k) (r := r) h2 (by omega)
      simp only [Tr.flat, List.cons_append, List.append_assoc, parseF, h0, ha, hb]
      simp
def theT (t : List NodeD) : Tr := match parseF t.length t with | some (T, _) => T | none => .leaf ⟨0, false, 0⟩
theorem theT_eq {t : List NodeD} {T : Tr} (h : Valid t T) : theT t = T := by
  obtain ⟨hT, _, rfl⟩ := h
  have := parseF_flat (T := T) (k := T.flat.length) (r := []) hT (Nat.le_refl _)
  rw [List.append_nil] at this
  rw [theT, this]
theorem theT_at {t : List NodeD} (h : treeOk t = true) : At t 0 (theT t) ∧ (theT t).flat = t ∧ (theT t).shaped := by
  obtain ⟨_, ⟨T, hv⟩, _⟩ := treeOk_iff.1 h
  rw [theT_eq hv]
  exact ⟨⟨hv.1, by rw [hv.2.2]; exact hv.2.1, [], by rw [hv.2.2]; simp⟩, hv.2.2, hv.1⟩
theorem fine0 {w h : Int} (hw : within w 1 120 = true) (hh : within h 1 120 = true) : Fine ⟨0, 0, 0, w, h⟩ := by
  rw [within_iff] at hw hh
  constructor <;> simp <;> omega
def sidesOk (t : List NodeD) (w h : Int) : Bool := treeOk t && within w 1 120 && within h 1 120
def placesOk (t : List NodeD) (w h : Int) : Bool := sidesOk t w h && (placeS (theT t) ⟨0, 0, 0, w, h⟩).2
def placesL (t : List NodeD) (w h : Int) : List RectD := if placesOk t w h = true then (placeS (theT t) ⟨0, 0, 0, w, h⟩).1 else []
def areasL (t : List NodeD) (w h : Int) : List RectD := if sidesOk t w h = true then (putL (theT t) ⟨0, 0, 0, w, h⟩).1 else []
theorem placesL_len (t : List NodeD) (w h : Int) : (placesL t w h).length ≤ 31 := by
  unfold placesL
  split
  · rename_i hp
    simp only [placesOk, sidesOk, Bool.and_eq_true] at hp
    have h1 := treeOk_len hp.1.1.1
    have h2 := placeS_len (T := theT t) (r := ⟨0, 0, 0, w, h⟩)
    rw [(theT_at hp.1.1.1).2.1] at h2
    omega
  · simp
theorem areasL_len (t : List NodeD) (w h : Int) : (areasL t w h).length ≤ 31 := by
  unfold areasL
  split
  · rename_i hp
    simp only [sidesOk, Bool.and_eq_true] at hp
    have h1 := treeOk_len hp.1.1
    have h2 := putL_len (T := theT t) (r := ⟨0, 0, 0, w, h⟩)
    rw [(theT_at hp.1.1).2.1] at h2
    omega
  · simp
theorem put_eq {t : List NodeD} {w h : Int} (ht : treeOk t = true) : (putL (theT t) ⟨0, 0, 0, w, h⟩).2 = (placeS (theT t) ⟨0, 0, 0, w, h⟩).2 := (put_place (theT_at ht).2.2).1
theorem areas_filter {t : List NodeD} {w h : Int} (hp : placesOk t w h = true) : (areasL t w h).filter (fun r => !decide (r.Pane = 0)) = placesL t w h := by
  have hp' := hp
  simp only [placesOk, Bool.and_eq_true] at hp'
  have hs := hp'.1
  simp only [sidesOk, Bool.and_eq_true] at hs
  rw [areasL, if_pos hp'.1, placesL, if_pos hp, ← (put_place (theT_at hs.1.1).2.2).2 hp'.2]
  congr 1
  funext r
  simp [isLeafR]
def placeAt (t : List NodeD) (w h p : Int) : Int := findI (fun r : RectD => decide (r.Pane = p)) (placesL t w h)
def placeR (t : List NodeD) (w h p : Int) : RectD := if 0 ≤ placeAt t w h p then gat encRect (placesL t w h) (placeAt t w h p).toNat else ⟨0, 0, 0, 0, 0⟩
theorem placeAt_lt (t : List NodeD) (w h p : Int) : -1 ≤ placeAt t w h p ∧ placeAt t w h p < (placesL t w h).length := findI_lt
structure Within (q r : RectD) : Prop where
  x0 : r.X ≤ q.X
  y0 : r.Y ≤ q.Y
  w1 : 1 ≤ q.W
  h1 : 1 ≤ q.H
  x1 : q.X + q.W ≤ r.X + r.W
  y1 : q.Y + q.H ≤ r.Y + r.H
theorem Within.trans {a b c : RectD} (h : Within a b) (k : Within b c) : Within a c :=
  ⟨by have := h.x0; have := k.x0; omega, by have := h.y0; have := k.y0; omega, h.w1, h.h1, by have := h.x1; have := k.x1; omega, by have := h.y1; have := k.y1; omega⟩
theorem filter_take {α : Type} {F : Enc α} {p : α → Bool} {xs : List α} {j : Nat} (hj : j < xs.length) : (xs.take (j + 1)).filter p = (xs.take j).filter p ++ (if p (gat F xs j) = true then [gat F xs j] else []) := by
  rw [List.take_add_one, gat_get (F := F) hj, List.filter_append]
  congr 1
  cases h : p (gat F xs j) <;> simp [h]
theorem filter_none {α : Type} {p : α → Bool} {xs : List α} (h : ∀ x, x ∈ xs → p x = false) : xs.filter (fun x => !p x) = xs := by
  rw [List.filter_eq_self]
  intro x hx
  simp [h x hx]
theorem set_take {α : Type} {zs : List α} {i : Nat} {x : α} (h : i < zs.length) : (zs.set i x).take (i + 1) = zs.take i ++ [x] := by
  have hl : (zs.set i x)[i]? = some x := by simp [h]
  rw [List.take_add_one, hl, List.take_set_of_le (Nat.le_refl i)]
  rfl
theorem gat_set_ne {α : Type} {F : Enc α} {zs : List α} {i k : Nat} {x : α} (h : k ≠ i) : gat F (zs.set i x) k = gat F zs k := by
  unfold gat
  simp [List.getD_eq_getElem?_getD, List.getElem?_set_ne (Ne.symm h)]
theorem gat_ext {α : Type} {F : Enc α} {a b : List α} (hl : a.length = b.length) (h : ∀ j, j < a.length → gat F a j = gat F b j) : a = b := by
 apply List.ext_getElem hl
 intro i h1 h2
 have e1 := gat_get (F := F) h1
 have e2 := gat_get (F := F) h2
 rw [List.getElem?_eq_getElem h1] at e1
 rw [List.getElem?_eq_getElem h2] at e2
 rw [Option.some.inj e1, Option.some.inj e2]
 exact h i h1
theorem u8_inj {a b : UInt8} (h : (a.toNat : Int) = (b.toNat : Int)) : a = b := UInt8.toNat_inj.1 (by omega)
def runeB (r : Int) : List UInt8 :=
 if shows r = false then [] else if r < 128 then [ub r] else if r < 2048 then [ub (192 + r / 64), ub (128 + r % 64)] else [ub (224 + r / 4096), ub (128 + r / 64 % 64), ub (128 + r % 64)]
theorem shows_iff {r : Int} : shows r = true ↔ (32 ≤ r ∧ r ≤ 126) ∨ (160 ≤ r ∧ r ≤ 65535 ∧ ¬ (55296 ≤ r ∧ r ≤ 57343)) := by
 simp [shows, within]; omega
def tlOk (l : List UInt8) : Bool := l.all fun x => decide (x.toNat / 64 = 2)
def tlN (l : List UInt8) : Nat := l.foldl (fun n x => 64 * n + x.toNat % 64) 0
theorem tlN_take {l : List UInt8} {i : Nat} (h : i < l.length) : tlN (l.take (i + 1)) = 64 * tlN (l.take i) + (gat encB l i).toNat % 64 := by
 unfold tlN
 rw [List.take_add_one, gat_get (F := encB) h, List.foldl_append]
 rfl
theorem tlOk_take {l : List UInt8} {i : Nat} (h : i < l.length) : tlOk (l.take (i + 1)) = (tlOk (l.take i) && decide ((gat encB l i).toNat / 64 = 2)) := by
 unfold tlOk
 rw [List.take_add_one, gat_get (F := encB) h, List.all_append]
 simp
theorem tlOk_bad {l : List UInt8} {i : Nat} (h : i < l.length) (hx : (gat encB l i).toNat / 64 ≠ 2) : tlOk l = false := by
 rw [← Bool.not_eq_true]
 intro hh
 unfold tlOk at hh
 rw [List.all_eq_true] at hh
 have := hh _ (gat_mem (F := encB) h)
 simp at this
 exact hx this
def tlV (l : List UInt8) : Nat := if tlOk l = true then tlN l else 0
theorem tlN_one (x : UInt8) : tlN [x] = x.toNat % 64 := by simp [tlN]
theorem tlN_two (x y : UInt8) : tlN [x, y] = 64 * (x.toNat % 64) + y.toNat % 64 := by simp [tlN]
def rcls (a : UInt8) : Nat := if 192 ≤ a.toNat ∧ a.toNat ≤ 223 then 2 else if 224 ≤ a.toNat ∧ a.toNat ≤ 239 then 3 else 1
def cand : List UInt8 → Nat → Int
 | a :: _, 1 => a.toNat
 | a :: b :: _, 2 => ((a.toNat : Int) - 192) * 64 + b.toNat - 128
 | a :: b :: c :: _, 3 => (((a.toNat : Int) - 224) * 64 + b.toNat - 128) * 64 + c.toNat - 128
 | _, _ => 0
def rtry (l : List UInt8) (s : Nat) : Bool := decide (s ≤ l.length) && decide (runeB (cand l s) = l.take s)
def runeL (l : List UInt8) : Option (Int × Nat) :=
 if rtry l 1 = true then some (cand l 1, 1) else if rtry l 2 = true then some (cand l 2, 2) else if rtry l 3 = true then some (cand l 3, 3) else none
def rvN : Option (Int × Nat) → Int
 | none => 0
 | some x => x.1
def rvS : Option (Int × Nat) → Nat
 | none => 0
 | some x => x.2
theorem ub_eq {n : Int} {a : UInt8} (h0 : 0 ≤ n) (h1 : n < 256) : ub n = a ↔ n = a.toNat := by
 constructor
 ·rintro rfl
  rw [ub_toNat]; omega
 ·intro h
  apply u8_inj
  rw [ub_toNat]; omega
theorem rtry1 {a : UInt8} {l : List UInt8} : rtry (a :: l) 1 = true ↔ 32 ≤ a.toNat ∧ a.toNat ≤ 126 := by
 have ha := a.toNat_lt
 simp only [rtry, cand, List.length_cons, Bool.and_eq_true, decide_eq_true_eq, List.take_succ_cons, List.take_zero]
 unfold runeB
 cases hs : shows (a.toNat : Int) with
 | false =>
  have : ¬ shows (a.toNat : Int) = true := by rw [hs]; decide
  rw [shows_iff] at this
  simp; omega
 | true =>
  have := shows_iff.1 hs
  have e : ub (a.toNat : Int) = a := (ub_eq (by omega) (by omega)).2 rfl
  rw [if_neg (by decide)]
  split
  ·rw [e]; simp; omega
  ·split <;> simp <;> omega
theorem rtry2 {a b : UInt8} {l : List UInt8} : rtry (a :: b :: l) 2 = true ↔ 194 ≤ a.toNat ∧ a.toNat ≤ 223 ∧ b.toNat / 64 = 2 ∧ 160 ≤ ((a.toNat : Int) - 192) * 64 + b.toNat % 64 := by
 have ha := a.toNat_lt
 have hb := b.toNat_lt
 simp only [rtry, cand, List.length_cons, Bool.and_eq_true, decide_eq_true_eq, List.take_succ_cons, List.take_zero]
 generalize hr : ((a.toNat : Int) - 192) * 64 + b.toNat - 128 = r
 unfold runeB
 cases hs : shows r with
 | false =>
  have : ¬ shows r = true := by rw [hs]; decide
  rw [shows_iff] at this
  simp; omega
 | true =>
  have := shows_iff.1 hs
  rw [if_neg (by decide)]
  split
  ·simp; omega
  ·split
   ·simp only [List.cons.injEq, and_true]
    rw [ub_eq (by omega) (by omega), ub_eq (by omega) (by omega)]
    omega
   ·simp; omega
theorem rtry3 {a b c : UInt8} {l : List UInt8} : rtry (a :: b :: c :: l) 3 = true ↔ (224 ≤ a.toNat ∧ a.toNat ≤ 239) ∧ b.toNat / 64 = 2 ∧ c.toNat / 64 = 2 ∧ 2048 ≤ ((a.toNat : Int) - 224) * 4096 + (b.toNat % 64) * 64 + c.toNat % 64 ∧ shows (((a.toNat : Int) - 224) * 4096 + (b.toNat % 64) * 64 + c.toNat % 64) = true := by
 have ha := a.toNat_lt
 have hb := b.toNat_lt
 have hc := c.toNat_lt
 simp only [rtry, cand, List.length_cons, Bool.and_eq_true, decide_eq_true_eq, List.take_succ_cons, List.take_zero]
 generalize hr : (((a.toNat : Int) - 224) * 64 + b.toNat - 128) * 64 + c.toNat - 128 = r
 unfold runeB
 rw [shows_iff]
 cases hs : shows r with
 | false =>
  have : ¬ shows r = true := by rw [hs]; decide
  rw [shows_iff] at this
  simp; omega
 | true =>
  have := shows_iff.1 hs
  rw [if_neg (by decide)]
  split
  ·simp; omega
  ·split
   ·simp; omega
   ·simp only [List.cons.injEq, and_true]
    rw [ub_eq (by omega) (by omega), ub_eq (by omega) (by omega), ub_eq (by omega) (by omega)]
    omega
theorem rtry_len {l : List UInt8} {s : Nat} (h : l.length < s) : rtry l s = false := by
 unfold rtry
 rw [show decide (s ≤ l.length) = false from decide_eq_false (by omega)]
 rfl
theorem rtry_cls {a : UInt8} {l : List UInt8} {s : Nat} (hs : s = 1 ∨ s = 2 ∨ s = 3) (h : rtry (a :: l) s = true) : rcls a = s := by
 have ha := a.toNat_lt
 unfold rcls
 rcases hs with rfl | rfl | rfl
 ·have := rtry1.1 h
  rw [if_neg (by omega), if_neg (by omega)]
 ·cases l with
  | nil => rw [rtry_len (by simp)] at h; cases h
  | cons b r =>
   have := rtry2.1 h
   rw [if_pos (by omega)]
 ·match l, h with
  | [], h => rw [rtry_len (by simp)] at h; cases h
  | [b], h => rw [rtry_len (by simp)] at h; cases h
  | b :: c :: r, h =>
   have := rtry3.1 h
   rw [if_neg (by omega), if_pos (by omega)]
theorem rcls_or (a : UInt8) : rcls a = 1 ∨ rcls a = 2 ∨ rcls a = 3 := by
 unfold rcls
 split
 ·exact .inr (.inl rfl)
 ·split
  ·exact .inr (.inr rfl)
  ·exact .inl rfl
theorem runeL_cls {a : UInt8} {l : List UInt8} : runeL (a :: l) = if rtry (a :: l) (rcls a) = true then some (cand (a :: l) (rcls a), rcls a) else none := by
 unfold runeL
 by_cases h1 : rtry (a :: l) 1 = true
 ·rw [rtry_cls (.inl rfl) h1, if_pos h1, if_pos h1]
 ·rw [if_neg h1]
  by_cases h2 : rtry (a :: l) 2 = true
  ·rw [rtry_cls (.inr (.inl rfl)) h2, if_pos h2, if_pos h2]
  ·rw [if_neg h2]
   by_cases h3 : rtry (a :: l) 3 = true
   ·rw [rtry_cls (.inr (.inr rfl)) h3, if_pos h3]
   ·rw [if_neg h3]
    rcases rcls_or a with h | h | h <;> rw [h]
    ·rw [if_neg h1]
    ·rw [if_neg h2]
    ·rw [if_neg h3]
theorem runeL_nil : runeL [] = none := by
 unfold runeL
 rw [rtry_len (by simp), rtry_len (by simp), rtry_len (by simp)]
 simp
def runeBeg : List UInt8 → Bool
 | [a] => within a.toNat 194 239
 | [a, b] => decide (b.toNat / 64 = 2) && decide (224 ≤ a.toNat) && decide (2048 ≤ ((a.toNat : Int) - 224) * 4096 + (b.toNat % 64 : Nat) * 64) && shows (((a.toNat : Int) - 224) * 4096 + (b.toNat % 64 : Nat) * 64)
 | _ => false
theorem rvS_iff {a : UInt8} {l : List UInt8} {s : Nat} (hs : s = 2 ∨ s = 3) : rvS (runeL (a :: l)) = s ↔ rtry (a :: l) s = true := by
 rw [runeL_cls]
 have h1 := @rtry1 a l
 have h2 : rtry (a :: l) 2 = true → 194 ≤ a.toNat ∧ a.toNat ≤ 223 := by
  intro h
  cases l with
  | nil => rw [rtry_len (by simp)] at h; cases h
  | cons b r => have := rtry2.1 h; omega
 have h3 : rtry (a :: l) 3 = true → 224 ≤ a.toNat ∧ a.toNat ≤ 239 := by
  intro h
  match l with
  | [] => rw [rtry_len (by simp)] at h; cases h
  | [b] => rw [rtry_len (by simp)] at h; cases h
  | b :: c :: r => have := rtry3.1 h; omega
 constructor
 ·intro h
  split at h
  ·rename_i hh
   simp only [rvS] at h
   rw [← h]; exact hh
  ·simp only [rvS] at h; omega
 ·intro h
  have e : rcls a = s := by
   unfold rcls
   rcases hs with rfl | rfl
   ·have := h2 h
    rw [if_pos (by omega)]
   ·have := h3 h
    rw [if_neg (by omega), if_pos (by omega)]
  rw [e, if_pos h]
  rfl
def begHit (l : List UInt8) (x : UInt8) : Bool := decide (rvS (runeL (l ++ [x])) = l.length + 1) || (decide (l.length = 1) && decide (rvS (runeL (l ++ [x, 129])) = 3))
theorem beg_iff {l : List UInt8} (hl : l.length = 1 ∨ l.length = 2) : runeBeg l = true ↔ ∃ x : Nat, 128 ≤ x ∧ x < 192 ∧ begHit l (UInt8.ofNat x) = true := by
 have hof : ∀ x : Nat, x < 256 → (UInt8.ofNat x).toNat = x := fun x hx => by rw [UInt8.toNat_ofNat', Nat.mod_eq_of_lt hx]
 have h129 : (129 : UInt8).toNat = 129 := rfl
 match l, hl with
 | [a], _ =>
  have ha := a.toNat_lt
  have hb : ∀ x, begHit [a] x = true ↔ rtry [a, x] 2 = true ∨ rtry [a, x, 129] 3 = true := fun x => by
   simp only [begHit, List.length_singleton, List.singleton_append, Bool.or_eq_true, Bool.and_eq_true, decide_eq_true_eq, true_and]
   rw [← rvS_iff (.inl rfl), ← rvS_iff (.inr rfl)]
  simp only [runeBeg, within_iff]
  constructor
  ·intro h
   by_cases h2 : a.toNat ≤ 223
   ·refine ⟨191, by omega, by omega, (hb _).2 (.inl (rtry2.2 ?_))⟩
    rw [hof _ (by omega)]
    omega
   ·by_cases h3 : a.toNat = 237
    ·refine ⟨159, by omega, by omega, (hb _).2 (.inr (rtry3.2 ?_))⟩
     rw [hof _ (by omega), h129, shows_iff]
     omega
    ·refine ⟨191, by omega, by omega, (hb _).2 (.inr (rtry3.2 ?_))⟩
     rw [hof _ (by omega), h129, shows_iff]
     omega
  ·rintro ⟨x, h1, h2, h3⟩
   rcases (hb _).1 h3 with h4 | h4
   ·have := rtry2.1 h4; omega
   ·have := rtry3.1 h4; omega
 | [a, b], _ =>
  have ha := a.toNat_lt
  have hbt := b.toNat_lt
  have hb : ∀ x, begHit [a, b] x = true ↔ rtry [a, b, x] 3 = true := fun x => by
   simp only [begHit, List.length_cons, List.length_nil, List.cons_append, List.nil_append, Bool.or_eq_true, Bool.and_eq_true, decide_eq_true_eq]
   rw [← rvS_iff (.inr rfl)]
   simp
  simp only [runeBeg, Bool.and_eq_true, decide_eq_true_eq, shows_iff]
  constructor
  ·intro h
   refine ⟨128, by omega, by omega, (hb _).2 (rtry3.2 ?_)⟩
   rw [hof _ (by omega), shows_iff]
   omega
  ·rintro ⟨x, h1, h2, h3⟩
   have := rtry3.1 ((hb _).1 h3)
   rw [hof _ (by omega), shows_iff] at this
   omega
def areArgs (l : List Int) : Bool := decide (l.length ≤ 8) && l.all fun n => within n 0 9999
def vpOk (v : VpD) : Bool :=
 if v.State = 0 then (!v.Mark && decide (v.Args.length = 0)) && (decide (v.Part.length = 0) || runeBeg v.Part)
 else if v.State = 1 then (!v.Mark && decide (v.Args.length = 0)) && decide (v.Part.length = 0)
 else if v.State = 2 ∨ v.State = 3 then areArgs v.Args && decide (v.Part.length = 0) else false
theorem areArgs_iff {l : List Int} : areArgs l = true ↔ l.length ≤ 8 ∧ ∀ x, x ∈ l → 0 ≤ x ∧ x ≤ 9999 := by
 simp only [areArgs, Bool.and_eq_true, decide_eq_true_eq, List.all_eq_true, within_iff]
theorem vpOk_csi {v : VpD} (hs : v.State = 2 ∨ v.State = 3) : vpOk v = (areArgs v.Args && decide (v.Part.length = 0)) := by
 unfold vpOk
 rw [if_neg (by omega), if_neg (by omega), if_pos hs]
theorem tlN_bnd {l : List UInt8} (h : l.length ≤ 2) : tlN l ≤ 4095 ∧ (l.length ≤ 1 → tlN l ≤ 63) ∧ (l.length = 0 → tlN l = 0) := by
 match l, h with
 | [], _ => simp [tlN]
 | [a], _ => simp only [tlN_one, List.length_cons, List.length_nil]; omega
 | [a, b], _ => simp only [tlN_two, List.length_cons, List.length_nil]; omega
theorem tlV_bnd {l : List UInt8} (h : l.length ≤ 2) : tlV l ≤ 4095 ∧ (l.length ≤ 1 → tlV l ≤ 63) ∧ (l.length = 0 → tlV l = 0) := by
 have := tlN_bnd h
 unfold tlV; split <;> omega
def candI (l : List UInt8) (s : Nat) : Nat → Int
 | 0 => (bat l 0).toNat - iat [0, 0, 192, 224] s
 | i + 1 => candI l s i * 64 + (bat l (i + 1)).toNat - 128
theorem candI_cand {l : List UInt8} {s : Nat} (h1 : 1 ≤ s) (h3 : s ≤ 3) (hl : s ≤ l.length) : candI l s (s - 1) = cand l s := by
 have : s = 1 ∨ s = 2 ∨ s = 3 := by omega
 rcases this with rfl | rfl | rfl
 ·match l, hl with
  | a :: r, _ => simp [candI, cand, gat, bat, iat]
 ·match l, hl with
  | a :: b :: r, _ => simp [candI, cand, gat, bat, iat]
 ·match l, hl with
  | a :: b :: c :: r, _ => simp [candI, cand, gat, bat, iat]
theorem candI_next {l : List UInt8} {s i : Nat} (h : 1 ≤ i) : candI l s (i + 1 - 1) = candI l s (i - 1) * 64 + (gat encB l i).toNat - 128 := by
 obtain ⟨j, rfl⟩ : ∃ j, i = j + 1 := ⟨i - 1, by omega⟩
 rfl
theorem t4_bnd (s : Nat) : 0 ≤ gat encI [0, 0, 192, 224] s ∧ gat encI [0, 0, 192, 224] s ≤ 224 := by
 match s with
 | 0 => decide
 | 1 => decide
 | 2 => decide
 | 3 => decide
 | _ + 4 => simp [iat, gat]; decide
theorem candI_bnd {l : List UInt8} {s i : Nat} (h : i ≤ 2) : -2000000 ≤ candI l s i ∧ candI l s i ≤ 2000000 := by
 have hi : 0 ≤ iat [0, 0, 192, 224] s ∧ iat [0, 0, 192, 224] s ≤ 224 := t4_bnd s
 have h0 := (bat l 0).toNat_lt
 have h1 := (bat l 1).toNat_lt
 have h2 := (bat l 2).toNat_lt
 generalize hx : iat [0, 0, 192, 224] s = x at hi
 have e0 : candI l s 0 = (bat l 0).toNat - x := by rw [← hx]; rfl
 have e1 : candI l s 1 = candI l s 0 * 64 + (bat l 1).toNat - 128 := rfl
 have e2 : candI l s 2 = candI l s 1 * 64 + (bat l 2).toNat - 128 := rfl
 have : i = 0 ∨ i = 1 ∨ i = 2 := by omega
 rcases this with rfl | rfl | rfl <;> omega
theorem rtry_iff {l : List UInt8} {s : Nat} (hl : s ≤ l.length) : (decide ((runeB (cand l s)).length = s) && decide (runeB (cand l s) = l.take s)) = rtry l s := by
 unfold rtry
 rw [show decide (s ≤ l.length) = true from decide_eq_true hl, Bool.true_and]
 by_cases h : runeB (cand l s) = l.take s
 ·rw [h]; simp [hl]
 ·simp [h]
theorem runeL_at {l : List UInt8} {s : Nat} (h : rtry l s = true) (h1 : 1 ≤ s) (h3 : s ≤ 3) (hn : ∀ t, 1 ≤ t → t < s → rtry l t = false) : runeL l = some (cand l s, s) := by
 unfold runeL
 have : s = 1 ∨ s = 2 ∨ s = 3 := by omega
 rcases this with rfl | rfl | rfl
 ·rw [if_pos h]
 ·rw [if_neg (by rw [hn 1 (by omega) (by omega)]; decide), if_pos h]
 ·rw [if_neg (by rw [hn 1 (by omega) (by omega)]; decide), if_neg (by rw [hn 2 (by omega) (by omega)]; decide), if_pos h]
theorem runeL_none {l : List UInt8} (hn : ∀ t, 1 ≤ t → t ≤ 3 → rtry l t = false) : runeL l = none := by
 unfold runeL
 rw [hn 1 (by omega) (by omega), hn 2 (by omega) (by omega), hn 3 (by omega) (by omega)]
 simp
theorem ub_nat {x : Nat} : ub (x : Int) = UInt8.ofNat x := by
 apply u8_inj
 rw [ub_toNat, UInt8.toNat_ofNat']
 omega
theorem beg_no {l : List UInt8} (hl : l.length = 1 ∨ l.length = 2) (h : ∀ x : Nat, 128 ≤ x → x < 192 → begHit l (ub x) = false) : runeBeg l = false := by
 rw [← Bool.not_eq_true, beg_iff hl]
 rintro ⟨x, h1, h2, h3⟩
 have := h x h1 h2
 rw [ub_nat, h3] at this
 cases this
theorem beg_yes {l : List UInt8} (hl : l.length = 1 ∨ l.length = 2) {x : Nat} (h1 : 128 ≤ x) (h2 : x < 192) (h : begHit l (ub x) = true) : runeBeg l = true := (beg_iff hl).2 ⟨x, h1, h2, by rwa [← ub_nat]⟩
theorem beg_len {l : List UInt8} (h : ¬ (l.length = 1 ∨ l.length = 2)) : runeBeg l = false := by
 match l, h with
 | [], _ => rfl
 | [_], h => simp at h
 | [_, _], h => simp at h
 | _ :: _ :: _ :: _, _ => rfl
theorem beg_two {b : List UInt8} (hb : b.length = 2) : (tlOk (b.drop 1) && decide (224 ≤ (((gat encB b 0).toNat : Nat) : Int)) && decide (2048 ≤ ((((gat encB b 0).toNat : Nat) : Int) - 224) * 4096 + ((tlV (b.drop 1) : Nat) : Int) * 64) && shows (((((gat encB b 0).toNat : Nat) : Int) - 224) * 4096 + ((tlV (b.drop 1) : Nat) : Int) * 64)) = runeBeg b := by
 match b, hb with
 | [x, y], _ =>
  have e1 : tlOk [y] = decide (y.toNat / 64 = 2) := by simp [tlOk]
  simp only [List.drop_succ_cons, List.drop_zero, runeBeg]
  by_cases h : y.toNat / 64 = 2
  ·have e2 : tlV [y] = y.toNat % 64 := by unfold tlV; rw [e1, if_pos (by simpa using h), tlN_one]
   rw [e1, e2]
   have e3 : gat encB [x, y] 0 = x := rfl
   rw [e3, show decide ((224 : Int) ≤ ((x.toNat : Nat) : Int)) = decide (224 ≤ x.toNat) from by simp only [decide_eq_decide]; omega]
  ·rw [e1, decide_eq_false h]; simp
theorem all_find {α : Type} {p : α → Bool} {l : List α} : (!decide (0 ≤ findI (fun x => !p x) l)) = l.all p := by
 rcases findI_cases (p := fun c => !p c) (xs := l) with ⟨h1, h2⟩ | ⟨i, hi, h1, h2, _⟩
 ·rw [h1]
  have : l.all p = true := by
   rw [List.all_eq_true]
   intro x hx
   simpa using h2 x hx
  rw [this]; decide
 ·rw [h1]
  have : l.all p = false := by
   rw [← Bool.not_eq_true]
   intro h
   rw [List.all_eq_true] at h
   have h3 := h _ (List.getElem_mem hi)
   rw [h3] at h2; cases h2
  rw [this]; simp
def vpBad (v : VpD) : Bool := ((decide (v.State < 0) || decide (3 < v.State)) || decide (8 < (v.Args.length : Int))) || (!(decide (v.State = 2) || decide (v.State = 3)) && (v.Mark || decide (0 < (v.Args.length : Int))))
theorem vpOk_bad {v : VpD} (h : vpBad v = true) : vpOk v = false := by
 rw [← Bool.not_eq_true]
 intro h2
 unfold vpOk at h2
 unfold vpBad at h
 simp only [Bool.or_eq_true, Bool.and_eq_true, decide_eq_true_eq, Bool.not_eq_true', Bool.or_eq_false_iff, decide_eq_false_iff_not] at h
 split at h2
 ·simp only [Bool.and_eq_true, Bool.not_eq_true', decide_eq_true_eq] at h2
  rcases h with ((h | h) | h) | ⟨_, h | h⟩
  ·omega
  ·omega
  ·omega
  ·rw [h2.1.1] at h; cases h
  ·omega
 ·split at h2
  ·simp only [Bool.and_eq_true, Bool.not_eq_true', decide_eq_true_eq] at h2
   rcases h with ((h | h) | h) | ⟨_, h | h⟩
   ·omega
   ·omega
   ·omega
   ·rw [h2.1.1] at h; cases h
   ·omega
  ·split at h2
   ·rw [Bool.and_eq_true, areArgs_iff] at h2
    rcases h with ((h | h) | h) | ⟨h, _⟩
    ·omega
    ·omega
    ·omega
    ·omega
   ·cases h2
theorem vpOk_arg {v : VpD} {j : Nat} (hj : j < v.Args.length) (h : within (gat encI v.Args j) 0 9999 = false) : vpOk v = false := by
 rw [← Bool.not_eq_true]
 intro h2
 unfold vpOk at h2
 split at h2
 ·simp only [Bool.and_eq_true, Bool.not_eq_true', decide_eq_true_eq] at h2; omega
 ·split at h2
  ·simp only [Bool.and_eq_true, Bool.not_eq_true', decide_eq_true_eq] at h2; omega
  ·split at h2
   ·rw [Bool.and_eq_true, areArgs_iff] at h2
    have h3 := h2.1.2 _ (gat_mem (F := encI) hj)
    rw [← within_iff, h] at h3; cases h3
   ·cases h2
theorem vpOk_end {v : VpD} (hb : vpBad v = false) (h : ∀ j, j < v.Args.length → within (gat encI v.Args j) 0 9999 = true) : vpOk v = (decide (v.Part.length = 0) || (decide (v.State = 0) && runeBeg v.Part)) := by
 unfold vpBad at hb
 simp only [Bool.or_eq_false_iff, Bool.and_eq_false_iff, decide_eq_false_iff_not, Bool.not_eq_false', Bool.or_eq_true, decide_eq_true_eq] at hb
 have ha : areArgs v.Args = true := by
  rw [areArgs_iff]
  refine ⟨by omega, fun x hx => ?_⟩
  obtain ⟨j, hj, rfl⟩ := List.mem_iff_getElem.1 hx
  have := h j hj
  rw [within_iff] at this
  have e := gat_get (F := encI) hj
  rw [List.getElem?_eq_getElem hj] at e
  rw [Option.some.inj e]; exact this
 by_cases h2 : v.State = 2 ∨ v.State = 3
 ·rw [vpOk_csi h2, ha, decide_eq_false (show ¬ v.State = 0 by omega)]; simp
 ·have h3 : v.Mark = false ∧ ¬ 0 < (v.Args.length : Int) := by
   rcases hb.2 with h4 | h4
   ·exact absurd h4 h2
   ·exact h4
  unfold vpOk
  have h0 : v.Args.length = 0 := by omega
  by_cases h5 : v.State = 0
  ·rw [if_pos h5, h3.1, decide_eq_true h0, decide_eq_true h5]; simp
  ·rw [if_neg h5, if_pos (by omega), h3.1, decide_eq_true h0, decide_eq_false h5]; simp
def isSize (w h : Int) : Bool := (within w 1 120 && within h 1 120) && decide (w * h ≤ 4000)
theorem isSize_iff {w h : Int} : isSize w h = true ↔ ((1 ≤ w ∧ w ≤ 120) ∧ 1 ≤ h ∧ h ≤ 120) ∧ w * h ≤ 4000 := by
 simp only [isSize, Bool.and_eq_true, within_iff, decide_eq_true_eq]
theorem mul_size {w h : Int} (hw : 1 ≤ w ∧ w ≤ 120) (hh : 1 ≤ h ∧ h ≤ 120) : 1 ≤ w * h ∧ w * h ≤ 14400 := by
 have h1 : 1 * 1 ≤ w * h := Int.mul_le_mul hw.1 hh.1 (by decide) (by omega)
 have h2 : w * h ≤ 120 * 120 := Int.mul_le_mul hw.2 hh.2 (by omega) (by decide)
 omega
theorem isSize_bnd {w h : Int} (hs : isSize w h = true) : (1 ≤ w ∧ w ≤ 120) ∧ (1 ≤ h ∧ h ≤ 120) ∧ 1 ≤ w * h ∧ w * h ≤ 4000 := by
 have h1 := isSize_iff.1 hs
 have h2 := mul_size h1.1.1 h1.1.2
 exact ⟨h1.1.1, h1.1.2, h2.1, h1.2⟩
abbrev blankC : CellD := ⟨32, ⟨0, 0, false, false, false⟩⟩
abbrev grid0 : GridD := ⟨0, 0, []⟩
def gridNew (w h : Int) : GridD := ⟨w, h, List.replicate (w * h).toNat blankC⟩
def gridOk (g : GridD) : Bool := (isSize g.W g.H && decide ((g.Cells.length : Int) = g.W * g.H)) && cellsOk g.Cells
def gridHas (g : GridD) (x y : Int) : Bool := within x 0 (g.W - 1) && within y 0 (g.H - 1)
def ascAt (l : List Int) (lo hi : Int) (i : Nat) : Bool := within (iat l i) lo hi && (decide (i = 0) || decide (iat l (i - 1) < iat l i))
def isAsc (l : List Int) (lo hi : Int) : Bool := (List.range l.length).all (ascAt l lo hi)
theorem isAsc_all {l : List Int} {lo hi : Int} (h : ∀ i, i < l.length → ascAt l lo hi i = true) : isAsc l lo hi = true := by
 unfold isAsc
 rw [List.all_eq_true]
 exact fun i hi => h i (List.mem_range.1 hi)
theorem isAsc_not {l : List Int} {lo hi : Int} {i : Nat} (hi' : i < l.length) (h : ascAt l lo hi i = false) : isAsc l lo hi = false := by
 rw [← Bool.not_eq_true]
 intro hh
 unfold isAsc at hh
 rw [List.all_eq_true] at hh
 rw [hh i (List.mem_range.2 hi')] at h
 cases h
def rowOk (r : RowD) : Bool := within r.Cells.length 1 120 && cellsOk r.Cells
def backOk (b : List RowD) (l : Int) : Bool := decide ((b.length : Int) ≤ l) && b.all rowOk
def gridFit (g : GridD) (w h : Int) : Bool := gridOk g && (decide (g.W = w) && decide (g.H = h))
def scrP1 (s : ScrD) : Bool := gridFit s.Main s.W s.H && gridFit s.Alt s.W s.H
def scrP2 (s : ScrD) : Bool := (gridHas s.Main s.X s.Y && gridHas s.Main s.SaveX s.SaveY) && ((!s.Wrap || decide (s.X = s.W - 1)) && (attrOk s.A.Fg s.A.Bg && attrOk s.SaveA.Fg s.SaveA.Bg))
def scrP3 (s : ScrD) : Bool := (decide (0 ≤ s.Top) && decide (s.Top ≤ s.Bot)) && (decide (s.Bot < s.H) && (!decide (s.Top = s.Bot) || decide (s.H = 1)))
def scrP4 (s : ScrD) : Bool := within s.Limit 0 100 && decide ((s.Back.length : Int) ≤ s.Limit)
def scrIn (s : ScrD) : Bool := (scrP1 s && scrP2 s) && (scrP3 s && scrP4 s)
def scrOk (s : ScrD) : Bool := (scrIn s && isAsc s.Tabs 0 (s.W - 1)) && s.Back.all rowOk
theorem gridOk_bnd {g : GridD} (h : gridOk g = true) : (1 ≤ g.W ∧ g.W ≤ 120) ∧ (1 ≤ g.H ∧ g.H ≤ 120) ∧ 1 ≤ g.W * g.H ∧ g.W * g.H ≤ 4000 := by
 unfold gridOk at h
 rw [Bool.and_eq_true, Bool.and_eq_true] at h
 exact isSize_bnd h.1.1
theorem gridFit_bnd {g : GridD} {w h : Int} (hf : gridFit g w h = true) : (1 ≤ w ∧ w ≤ 120) ∧ (1 ≤ h ∧ h ≤ 120) ∧ g.W = w ∧ g.H = h := by
 unfold gridFit at hf
 rw [Bool.and_eq_true, Bool.and_eq_true, decide_eq_true_eq, decide_eq_true_eq] at hf
 have := gridOk_bnd hf.1
 omega
theorem scrP1_bnd {s : ScrD} (h : scrP1 s = true) : (1 ≤ s.W ∧ s.W ≤ 120) ∧ (1 ≤ s.H ∧ s.H ≤ 120) ∧ s.Main.W = s.W ∧ s.Main.H = s.H ∧ s.Alt.W = s.W ∧ s.Alt.H = s.H := by
 unfold scrP1 at h
 rw [Bool.and_eq_true] at h
 have h1 := gridFit_bnd h.1
 have h2 := gridFit_bnd h.2
 omega
theorem scrOk_no {s : ScrD} (h : scrP1 s = false ∨ scrP2 s = false ∨ scrP3 s = false ∨ scrP4 s = false ∨ isAsc s.Tabs 0 (s.W - 1) = false ∨ s.Back.all rowOk = false) : scrOk s = false := by
 unfold scrOk scrIn
 rcases h with h | h | h | h | h | h <;> rw [h] <;> simp
theorem scrOk_yes {s : ScrD} (h1 : scrP1 s = true) (h2 : scrP2 s = true) (h3 : scrP3 s = true) : scrOk s = ((isAsc s.Tabs 0 (s.W - 1) && within s.Limit 0 100) && backOk s.Back s.Limit) := by
 unfold scrOk scrIn scrP4 backOk
 rw [h1, h2, h3]
 simp only [Bool.true_and]
 generalize within s.Limit 0 100 = a
 generalize isAsc s.Tabs 0 (s.W - 1) = b
 generalize decide ((s.Back.length : Int) ≤ s.Limit) = c
 generalize s.Back.all rowOk = d
 cases a <;> cases b <;> cases c <;> cases d <;> rfl
theorem scrOk_all {s : ScrD} (h1 : scrP1 s = true) (h2 : scrP2 s = true) (h3 : scrP3 s = true) (h4 : scrP4 s = true) (h5 : isAsc s.Tabs 0 (s.W - 1) = true) (h6 : s.Back.all rowOk = true) : scrOk s = true := by
 unfold scrOk scrIn
 rw [h1, h2, h3, h4, h5, h6]; rfl
def termOk (t : TermD) : Bool := vpOk t.P && scrOk t.S
def gridRes (w h : Int) : GridD := if isSize w h = true then gridNew w h else grid0
theorem all_gat {α β : Type} {F : Enc α} {f : α → β} {p : β → Bool} {l : List α} (h : ∀ j, j < l.length → p (f (gat F l j)) = true) : (l.map f).all p = true := by
 rw [List.all_map, List.all_eq_true]
 intro x hx
 obtain ⟨j, hj, rfl⟩ := List.mem_iff_getElem.1 hx
 have := h j hj
 rwa [show gat F l j = l[j] by simp [gat, List.getD, hj]] at this
theorem all_gat_not {α β : Type} {F : Enc α} {f : α → β} {p : β → Bool} {l : List α} {j : Nat} (hj : j < l.length) (h : p (f (gat F l j)) = false) : (l.map f).all p = false := by
 rw [← Bool.not_eq_true]
 intro hh
 rw [List.all_map, List.all_eq_true] at hh
 have h2 : p (f (gat F l j)) = true := hh _ (gat_mem hj)
 rw [h] at h2; cases h2
theorem findI_map {α β : Type} {f : α → β} {p : β → Bool} {l : List α} : findI p (l.map f) = findI (fun x => p (f x)) l := by
 unfold findI
 rw [List.findIdx?_map]
 rfl
def hasI (l : List Int) (x : Int) : Bool := decide (x ∈ l)
theorem hasI_find {l : List Int} {x : Int} : decide (0 ≤ findI (fun z => decide (x = z)) l) = hasI l x := by
 have h := all_find (p := fun z => !decide (x = z)) (l := l)
 simp only [Bool.not_not] at h
 have h2 : decide (0 ≤ findI (fun z => decide (x = z)) l) = !(l.all fun z => !decide (x = z)) := by rw [← h, Bool.not_not]
 rw [h2, Bool.eq_iff_iff]
 simp [hasI]
theorem hasI_not {l : List Int} {x : Int} (h : ∀ j, j < l.length → iat l j ≠ x) : x ∉ l := by
 intro hx
 obtain ⟨j, hj, rfl⟩ := List.mem_iff_getElem.1 hx
 exact h j hj (by simp [gat, List.getD, hj])
def lifeOk (life code pid : Int) : Bool :=
 if life = 1 then isId pid && decide (code = 0) else if life = 2 then within code 0 255 && decide (pid = 0) else if life = 3 then decide (code = 0) && decide (pid = 0) else false
def paneOk (p : PaneD) : Bool := (((isId p.Id && isCmd p.Cmd) && isCmd p.Dir) && termOk p.Term) && lifeOk p.Life p.Code p.Pid
theorem findI_mem {α : Type} {p : α → Bool} {xs : List α} : 0 ≤ findI p xs ↔ ∃ x, x ∈ xs ∧ p x = true := by
 rcases findI_cases (p := p) (xs := xs) with ⟨h1, h2⟩ | ⟨i, h, h1, h2⟩
 ·rw [h1]
  refine ⟨fun h => by omega, fun ⟨x, hx, hp⟩ => ?_⟩
  rw [h2 x hx] at hp; cases hp
 ·rw [h1]
  exact ⟨fun _ => ⟨xs[i], List.getElem_mem h, h2.1⟩, fun _ => by omega⟩
theorem find_findI {α : Type} {p : α → Bool} : ∀ {xs : List α}, xs.find? p = if 0 ≤ findI p xs then xs[(findI p xs).toNat]? else none := by
 intro xs
 rcases findI_cases (p := p) (xs := xs) with ⟨h1, h2⟩ | ⟨i, h, h1, h2, h3⟩
 ·rw [h1, if_neg (by omega), List.find?_eq_none]
  intro x hx; rw [h2 x hx]; decide
 ·rw [h1, if_pos (by omega), Int.toNat_natCast, List.getElem?_eq_getElem h, List.find?_eq_some_iff_getElem]
  exact ⟨by simpa using h2, i, h, rfl, fun j hj => by rw [h3 j hj]; rfl⟩
def winHas (p : Int) (w : WinD) : Bool := hasI (leavesL w.Tree) p
def areaW (s : StateD) (p : Int) (w : WinD) : Int × Int := if (w.Zoom && decide (w.Active = p)) = true then (s.W, s.H) else ((placeR w.Tree s.W s.H p).W, (placeR w.Tree s.W s.H p).H)
def areaD (s : StateD) (p : Int) : Int × Int :=
 match s.Wins.find? (winHas p) with
 | none => (0, 0)
 | some w => areaW s p w
def idAsc (l : List Int) : Bool := (List.range l.length).all fun i => decide (i = 0) || decide (iat l (i - 1) < iat l i)
theorem idAsc_iff {l : List Int} : idAsc l = true ↔ ∀ i, 0 < i → i < l.length → iat l (i - 1) < iat l i := by
 unfold idAsc
 rw [List.all_eq_true]
 constructor
 ·intro h i h0 hi
  have := h i (List.mem_range.2 hi)
  rw [Bool.or_eq_true, decide_eq_true_eq, decide_eq_true_eq] at this
  omega
 ·intro h i hi
  rw [Bool.or_eq_true, decide_eq_true_eq, decide_eq_true_eq]
  by_cases h0 : i = 0
  ·exact .inl h0
  ·exact .inr (h i (by omega) (List.mem_range.1 hi))
theorem idAsc_lt {l : List Int} (h : idAsc l = true) : ∀ {j i : Nat}, j < i → i < l.length → iat l j < iat l i := by
 rw [idAsc_iff] at h
 intro j i
 induction i with
 | zero => intro hj; omega
 | succ i ih =>
  intro hj hi
  have h1 := h (i + 1) (by omega) hi
  rw [Nat.add_sub_cancel] at h1
  by_cases he : j = i
  ·subst he; exact h1
  ·have := ih (by omega) (by omega)
   omega
theorem idAsc_nodup {l : List Int} (h : idAsc l = true) : l.Nodup := by
 unfold List.Nodup
 rw [List.pairwise_iff_getElem]
 intro i j hi hj hij he
 have h1 := idAsc_lt h hij hj
 have e1 := gat_get (F := encI) (xs := l) (k := i) hi
 have e2 := gat_get (F := encI) (xs := l) (k := j) hj
 rw [List.getElem?_eq_getElem hi] at e1
 rw [List.getElem?_eq_getElem hj] at e2
 have e3 := Option.some.inj e1
 have e4 := Option.some.inj e2
 unfold iat at h1
 rw [← e3, ← e4, he] at h1
 omega
theorem perm_of_sub : ∀ {a b : List Int}, a.Nodup → (∀ x, x ∈ a → x ∈ b) → b.length ≤ a.length → a.Perm b
 | [], b, _, _, hl => by
  have : b = [] := List.eq_nil_of_length_eq_zero (by simpa using hl)
  rw [this]
 | x :: r, b, hn, hs, hl => by
  have hx : x ∈ b := hs x List.mem_cons_self
  have hp := List.perm_cons_erase hx
  rw [List.nodup_cons] at hn
  have hr : ∀ y, y ∈ r → y ∈ b.erase x := fun y hy => (List.mem_erase_of_ne (fun e => hn.1 (by rw [← e]; exact hy))).2 (hs y (List.mem_cons_of_mem _ hy))
  have hlen := hp.length_eq
  rw [List.length_cons] at hlen hl
  exact ((perm_of_sub hn.2 hr (by omega)).cons x).trans hp.symm
theorem sortI_eq {a b : List Int} : sortI a = sortI b ↔ a.Perm b := by
 constructor
 ·intro h
  exact (sortI_perm a).symm.trans (h ▸ sortI_perm b)
 ·intro h
  exact List.Perm.eq_of_pairwise (le := fun x y : Int => x ≤ y) (fun x y _ _ h1 h2 => by omega) (sortI_sorted a) (sortI_sorted b) ((sortI_perm a).trans (h.trans (sortI_perm b).symm))
theorem once_iff {a b : List Int} (hb : b.Nodup) : sortI a = sortI b ↔ (a.Nodup ∧ (∀ x, x ∈ a → x ∈ b)) ∧ a.length = b.length := by
 rw [sortI_eq]
 constructor
 ·intro h
  exact ⟨⟨h.nodup_iff.2 hb, fun x hx => h.mem_iff.1 hx⟩, h.length_eq⟩
 ·rintro ⟨⟨h1, h2⟩, h3⟩
  exact perm_of_sub h1 h2 (by omega)
def pIds (s : StateD) : List Int := s.Panes.map (·.Id)
def wIds (s : StateD) : List Int := s.Wins.map (·.Id)
def isLive (p : PaneD) : Bool := decide (p.Life = 1)
def pidsL (l : List PaneD) : List Int := (l.filter isLive).map (·.Pid)
def paneB (s : StateD) (p : PaneD) : Bool := (paneOk p && decide (p.Id < s.Next)) && decide (p.Term.S.Limit = s.Limit)
def winB (s : StateD) (w : WinD) : Bool := ((decide (1 ≤ w.Id) && decide (w.Id < s.Next)) && (wordOk w.Name && placesOk w.Tree s.W s.H)) && hasI (panesL w.Tree) w.Active
def sessB (x : SessD) : Bool := wordOk x.Name && hasI x.Wins x.Active
def treesL (l : List WinD) : List Int := l.flatMap fun w => panesL w.Tree
def sessL (l : List SessD) : List Int := l.flatMap (·.Wins)
def panesC (s : StateD) : Bool := s.Panes.all (paneB s) && idAsc (pIds s)
def pidsC (s : StateD) : Bool := decide (pidsL s.Panes).Nodup
def noWin (s : StateD) : Bool := s.Panes.all fun p => !hasI (wIds s) p.Id
def areaB (s : StateD) (p : PaneD) : Bool := decide (areaD s p.Id = (p.Term.S.W, p.Term.S.H))
def areasC (s : StateD) : Bool := s.Panes.all (areaB s)
def winsC (s : StateD) : Bool := s.Wins.all (winB s) && idAsc (wIds s)
def namesC (s : StateD) : Bool := decide (s.Sess.map (·.Name)).Nodup
def sessC (s : StateD) : Bool := s.Sess.all sessB && namesC s
def perm1 (s : StateD) : Bool := decide (sortI (treesL s.Wins) = sortI (pIds s))
def perm2 (s : StateD) : Bool := decide (sortI (sessL s.Sess) = sortI (wIds s))
def all1 (s : StateD) : Bool := (decide (treesL s.Wins).Nodup && (treesL s.Wins).all fun x => hasI (pIds s) x) && decide ((treesL s.Wins).length = s.Panes.length)
def all2 (s : StateD) : Bool := (decide (sessL s.Sess).Nodup && (sessL s.Sess).all fun x => hasI (wIds s) x) && decide ((sessL s.Sess).length = s.Wins.length)
def panesOkI (s : StateD) : Bool := ((panesC s && noWin s) && pidsC s) && decide (s.Panes.length ≤ 24)
def winsOkI (s : StateD) : Bool := winsC s && (decide (s.Wins.length ≤ 12) && perm1 s)
def sessOkI (s : StateD) : Bool := sessC s && (decide (s.Sess.length ≤ 8) && perm2 s)
def numsC (s : StateD) : Bool := (isSize s.W s.H && within s.Limit 0 100) && isId s.Next
def stateOk (s : StateD) : Bool := (numsC s && (panesOkI s && (winsOkI s && sessOkI s))) && areasC s
def winsOkS (s : StateD) : Bool := (winsC s && noWin s) && all1 s
def sessOkS (s : StateD) : Bool := sessC s && all2 s
def panesOkS (s : StateD) : Bool := (panesC s && areasC s) && pidsC s
def lensC (s : StateD) : Bool := (decide (s.Panes.length ≤ 24) && decide (s.Wins.length ≤ 12)) && decide (s.Sess.length ≤ 8)
def stateOkS (s : StateD) : Bool := (numsC s && lensC s) && (winsOkS s && (sessOkS s && panesOkS s))
theorem perm1_all {s : StateD} (h : panesC s = true) : perm1 s = all1 s := by
 unfold panesC at h
 rw [Bool.and_eq_true] at h
 have hn := idAsc_nodup h.2
 rw [Bool.eq_iff_iff]
 unfold perm1 all1
 rw [decide_eq_true_eq, once_iff hn, Bool.and_eq_true, Bool.and_eq_true, decide_eq_true_eq, decide_eq_true_eq, List.all_eq_true]
 have hl : (pIds s).length = s.Panes.length := by unfold pIds; rw [List.length_map]
 rw [hl]
 constructor
 ·rintro ⟨⟨h1, h2⟩, h3⟩; exact ⟨⟨h1, fun x hx => by unfold hasI; exact decide_eq_true (h2 x hx)⟩, h3⟩
 ·rintro ⟨⟨h1, h2⟩, h3⟩; exact ⟨⟨h1, fun x hx => by have := h2 x hx; unfold hasI at this; exact of_decide_eq_true this⟩, h3⟩
theorem perm2_all {s : StateD} (h : winsC s = true) : perm2 s = all2 s := by
 unfold winsC at h
 rw [Bool.and_eq_true] at h
 have hn := idAsc_nodup h.2
 rw [Bool.eq_iff_iff]
 unfold perm2 all2
 rw [decide_eq_true_eq, once_iff hn, Bool.and_eq_true, Bool.and_eq_true, decide_eq_true_eq, decide_eq_true_eq, List.all_eq_true]
 have hl : (wIds s).length = s.Wins.length := by unfold wIds; rw [List.length_map]
 rw [hl]
 constructor
 ·rintro ⟨⟨h1, h2⟩, h3⟩; exact ⟨⟨h1, fun x hx => by unfold hasI; exact decide_eq_true (h2 x hx)⟩, h3⟩
 ·rintro ⟨⟨h1, h2⟩, h3⟩; exact ⟨⟨h1, fun x hx => by have := h2 x hx; unfold hasI at this; exact of_decide_eq_true this⟩, h3⟩
theorem stateOk_S (s : StateD) : stateOkS s = stateOk s := by
 unfold stateOkS stateOk winsOkS sessOkS panesOkS lensC panesOkI winsOkI sessOkI
 cases h1 : panesC s with
 | false => simp
 | true =>
  cases h2 : winsC s with
  | false => simp
  | true =>
   rw [perm1_all h1, perm2_all h2]
   cases numsC s <;> cases noWin s <;> cases pidsC s <;> cases areasC s <;> cases sessC s <;> cases all1 s <;> cases all2 s <;> simp [Bool.and_comm, Bool.and_left_comm, Bool.and_assoc]
theorem gat_map {α β : Type} {F : Enc α} {G : Enc β} {f : α → β} {xs : List α} {i : Nat} (h : i < xs.length) : gat G (xs.map f) i = f (gat F xs i) := by
 have e1 := gat_get (F := F) h
 have e2 := gat_get (F := G) (xs := xs.map f) (k := i) (by rw [List.length_map]; exact h)
 rw [List.getElem?_map, e1] at e2
 exact (Option.some.inj e2).symm
theorem all_map_gat {α β : Type} {F : Enc α} {f : α → β} {p : β → Bool} {xs : List α} : (xs.map f).all p = true ↔ ∀ i, i < xs.length → p (f (gat F xs i)) = true := by
 rw [List.all_eq_true]
 constructor
 ·intro h i hi
  exact h _ (List.mem_map_of_mem (gat_mem hi))
 ·intro h x hx
  obtain ⟨y, hy, rfl⟩ := List.mem_map.1 hx
  obtain ⟨i, hi, rfl⟩ := List.mem_iff_getElem.1 hy
  have e1 := gat_get (F := F) hi
  rw [List.getElem?_eq_getElem hi] at e1
  rw [Option.some.inj e1]
  exact h i hi
theorem idAsc_gat {α : Type} {F : Enc α} {f : α → Int} {xs : List α} : idAsc (xs.map f) = true ↔ ∀ i, 0 < i → i < xs.length → f (gat F xs (i - 1)) < f (gat F xs i) := by
 rw [idAsc_iff, List.length_map]
 constructor
 ·intro h i h0 hi
  have := h i h0 hi
  unfold iat at this
  rwa [gat_map (F := F) (by omega), gat_map (F := F) hi] at this
 ·intro h i h0 hi
  unfold iat
  rw [gat_map (F := F) (by omega), gat_map (F := F) hi]
  exact h i h0 hi
theorem pIds_R (s : StateR) : pIds s.dat = s.Panes.xs.map (·.Id) := by
 show (s.Panes.xs.map PaneR.dat).map (·.Id) = _
 rw [List.map_map]; rfl
theorem wIds_R (s : StateR) : wIds s.dat = s.Wins.xs.map (·.Id) := by
 show (s.Wins.xs.map WinR.dat).map (·.Id) = _
 rw [List.map_map]; rfl
theorem panesC_iff {s : StateR} : panesC s.dat = true ↔ ∀ i, i < s.Panes.xs.length → paneB s.dat (gat encPaneR s.Panes.xs i).dat = true ∧ (0 < i → (gat encPaneR s.Panes.xs (i - 1)).Id < (gat encPaneR s.Panes.xs i).Id) := by
 unfold panesC
 rw [Bool.and_eq_true, pIds_R, idAsc_gat (F := encPaneR)]
 rw [show s.dat.Panes = s.Panes.xs.map PaneR.dat from rfl, all_map_gat (F := encPaneR)]
 exact ⟨fun ⟨h1, h2⟩ i hi => ⟨h1 i hi, fun h0 => h2 i h0 hi⟩, fun h => ⟨fun i hi => (h i hi).1, fun i h0 hi => (h i hi).2 h0⟩⟩
theorem winsC_iff {s : StateR} : winsC s.dat = true ↔ ∀ i, i < s.Wins.xs.length → winB s.dat (gat encWinR s.Wins.xs i).dat = true ∧ (0 < i → (gat encWinR s.Wins.xs (i - 1)).Id < (gat encWinR s.Wins.xs i).Id) := by
 unfold winsC
 rw [Bool.and_eq_true, wIds_R, idAsc_gat (F := encWinR)]
 rw [show s.dat.Wins = s.Wins.xs.map WinR.dat from rfl, all_map_gat (F := encWinR)]
 exact ⟨fun ⟨h1, h2⟩ i hi => ⟨h1 i hi, fun h0 => h2 i h0 hi⟩, fun h => ⟨fun i hi => (h i hi).1, fun i h0 hi => (h i hi).2 h0⟩⟩
theorem noWin_iff {s : StateR} : noWin s.dat = true ↔ ∀ i, i < s.Panes.xs.length → hasI (wIds s.dat) (gat encPaneR s.Panes.xs i).Id = false := by
 unfold noWin
 rw [show s.dat.Panes = s.Panes.xs.map PaneR.dat from rfl, all_map_gat (F := encPaneR)]
 exact ⟨fun h i hi => by have := h i hi; rw [Bool.not_eq_true'] at this; exact this, fun h i hi => by rw [Bool.not_eq_true']; exact h i hi⟩
theorem areasC_iff {s : StateR} : areasC s.dat = true ↔ ∀ i, i < s.Panes.xs.length → areaB s.dat (gat encPaneR s.Panes.xs i).dat = true := by
 unfold areasC
 rw [show s.dat.Panes = s.Panes.xs.map PaneR.dat from rfl, all_map_gat (F := encPaneR)]
theorem winAt_has {s : StateD} {p : Int} : 0 ≤ findI (fun q : WinD => decide (q.Id = p)) s.Wins ↔ hasI (wIds s) p = true := by
 rw [findI_mem]
 unfold hasI wIds
 rw [decide_eq_true_eq, List.mem_map]
 exact ⟨fun ⟨x, hx, h⟩ => ⟨x, hx, of_decide_eq_true h⟩, fun ⟨x, hx, h⟩ => ⟨x, hx, decide_eq_true h⟩⟩
theorem paneAt_has {s : StateD} {p : Int} : 0 ≤ findI (fun q : PaneD => decide (q.Id = p)) s.Panes ↔ hasI (pIds s) p = true := by
 rw [findI_mem]
 unfold hasI pIds
 rw [decide_eq_true_eq, List.mem_map]
 exact ⟨fun ⟨x, hx, h⟩ => ⟨x, hx, of_decide_eq_true h⟩, fun ⟨x, hx, h⟩ => ⟨x, hx, decide_eq_true h⟩⟩
theorem pidsL_snoc {l : List PaneD} {p : PaneD} : pidsL (l ++ [p]) = pidsL l ++ if isLive p = true then [p.Pid] else [] := by
 unfold pidsL
 rw [List.filter_append, List.map_append]
 cases h : isLive p <;> simp [h]
theorem pidsL_take {xs : List PaneR} {i : Nat} (h : i < xs.length) : pidsL ((xs.take (i + 1)).map PaneR.dat) = pidsL ((xs.take i).map PaneR.dat) ++ if (gat encPaneR xs i).Life = 1 then [(gat encPaneR xs i).Pid] else [] := by
 rw [map_take_succ (F := encPaneR) h, pidsL_snoc]
 congr 1
 show (if isLive (gat encPaneR xs i).dat = true then _ else _) = _
 unfold isLive
 simp only [decide_eq_true_eq]
 rfl
theorem pidsC_sub {s : StateR} {i : Nat} (h : ¬ (pidsL ((s.Panes.xs.take i).map PaneR.dat)).Nodup) : pidsC s.dat = false := by
 unfold pidsC
 rw [decide_eq_false_iff_not]
 intro hn
 apply h
 have hs : ((s.Panes.xs.take i).map PaneR.dat).Sublist s.dat.Panes := (List.take_sublist _ _).map _
 exact hn.sublist ((hs.filter _).map _)
theorem pidsC_all {s : StateR} {i : Nat} (hi : s.Panes.xs.length ≤ i) (h : (pidsL ((s.Panes.xs.take i).map PaneR.dat)).Nodup) : pidsC s.dat = true := by
 rw [List.take_of_length_le hi] at h
 exact decide_eq_true h
theorem treesL_snoc {xs : List WinR} {i : Nat} (h : i < xs.length) : treesL ((xs.take (i + 1)).map WinR.dat) = treesL ((xs.take i).map WinR.dat) ++ panesL (gat encWinR xs i).Tree.xs := by
 rw [map_take_succ (F := encWinR) h]
 unfold treesL
 rw [List.flatMap_append]
 simp [WinR.dat]
theorem sessL_snoc {xs : List SessR} {i : Nat} (h : i < xs.length) : sessL ((xs.take (i + 1)).map SessR.dat) = sessL ((xs.take i).map SessR.dat) ++ (gat encSessR xs i).Wins.xs := by
 rw [map_take_succ (F := encSessR) h]
 unfold sessL
 rw [List.flatMap_append]
 simp [SessR.dat]
theorem sessL_sum {l : List SessD} : (sessL l).length ≤ (l.map totSess).sum := by
 induction l with
 | nil => exact Nat.zero_le _
 | cons x r ih =>
  have e : sessL (x :: r) = x.Wins ++ sessL r := by simp [sessL]
  rw [e, List.length_append, List.map_cons, List.sum_cons]
  have : x.Wins.length ≤ totSess x := by unfold totSess; omega
  omega
theorem ids_take {α : Type} {F : Enc α} {f : α → Int} {xs : List α} {i : Nat} (h : i < xs.length) : (xs.take (i + 1)).map f = (xs.take i).map f ++ [f (gat F xs i)] := by
 rw [List.take_add_one, gat_get (F := F) h, List.map_append]
 rfl
theorem sessC_names {s : StateR} : namesC s.dat = true ↔ ∀ i, i < s.Sess.xs.length → findI (fun q : SessD => decide (q.Name = (gat encSessR s.Sess.xs i).Name)) s.dat.Sess = i := by
 have hl : s.dat.Sess = s.Sess.xs.map SessR.dat := rfl
 have hN : s.dat.Sess.map (·.Name) = s.Sess.xs.map (·.Name) := by rw [hl, List.map_map]; rfl
 unfold namesC
 rw [decide_eq_true_eq, hN]
 have hat : ∀ j (hj : j < s.Sess.xs.length), s.Sess.xs[j] = gat encSessR s.Sess.xs j := fun j hj => by
  have e1 := gat_get (F := encSessR) hj
  rw [List.getElem?_eq_getElem hj] at e1
  exact Option.some.inj e1
 constructor
 ·intro hn i hi
  rw [hl, findI_map]
  refine findI_some (F := encSessR) (p := fun q : SessR => decide (q.dat.Name = (gat encSessR s.Sess.xs i).Name)) hi (fun j hj => ?_) (decide_eq_true rfl)
  rw [decide_eq_false_iff_not]
  intro he
  unfold List.Nodup at hn
  rw [List.pairwise_iff_getElem] at hn
  refine hn j i (by rw [List.length_map]; omega) (by rw [List.length_map]; exact hi) hj ?_
  rw [List.getElem_map, List.getElem_map, hat j (by omega), hat i hi]
  exact he
 ·intro h
  unfold List.Nodup
  rw [List.pairwise_iff_getElem]
  intro i j hi hj hij he
  rw [List.length_map] at hj
  rw [List.getElem_map, List.getElem_map, hat i (by omega), hat j hj] at he
  have he2 : (gat encSessR s.Sess.xs i).Name = (gat encSessR s.Sess.xs j).Name := he
  have h1 := h i (by omega)
  have h2 := h j hj
  rw [he2, h2] at h1
  omega
theorem panesI_no {s : StateR} {i : Nat} (hi : i < s.Panes.xs.length) (h : paneB s.dat (gat encPaneR s.Panes.xs i).dat = false ∨ (0 < i ∧ (gat encPaneR s.Panes.xs i).Id ≤ (gat encPaneR s.Panes.xs (i - 1)).Id) ∨ hasI (wIds s.dat) (gat encPaneR s.Panes.xs i).Id = true) : panesOkI s.dat = false := by
 cases hq : panesOkI s.dat with
 | false => rfl
 | true =>
  exfalso
  unfold panesOkI at hq
  simp only [Bool.and_eq_true] at hq
  have h1 := panesC_iff.1 hq.1.1.1 i hi
  have h2 := noWin_iff.1 hq.1.1.2 i hi
  rcases h with h | h | h
  ·rw [h] at h1; exact absurd h1.1 (by decide)
  ·have := h1.2 h.1; omega
  ·rw [h] at h2; cases h2
theorem panesI_pid {s : StateR} {i : Nat} (hi : i < s.Panes.xs.length) (hl : (gat encPaneR s.Panes.xs i).Life = 1) (hm : (gat encPaneR s.Panes.xs i).Pid ∈ pidsL ((s.Panes.xs.take i).map PaneR.dat)) : pidsC s.dat = false := by
 apply pidsC_sub (i := i + 1)
 rw [pidsL_take hi, if_pos hl]
 intro hn
 rw [List.nodup_append] at hn
 exact hn.2.2 _ hm _ (List.mem_singleton.2 rfl) rfl
theorem panesI_pid_no {s : StateR} (h : pidsC s.dat = false) : panesOkI s.dat = false := by unfold panesOkI; rw [h]; simp
theorem panesI_all {s : StateR} (h : ∀ i, i < s.Panes.xs.length → paneB s.dat (gat encPaneR s.Panes.xs i).dat = true ∧ (0 < i → (gat encPaneR s.Panes.xs (i - 1)).Id < (gat encPaneR s.Panes.xs i).Id) ∧ hasI (wIds s.dat) (gat encPaneR s.Panes.xs i).Id = false) (hp : pidsC s.dat = true) : panesOkI s.dat = decide (((s.Panes.xs.length : Nat) : Int) ≤ 24) := by
 have h1 : panesC s.dat = true := panesC_iff.2 fun i hi => ⟨(h i hi).1, (h i hi).2.1⟩
 have h2 : noWin s.dat = true := noWin_iff.2 fun i hi => (h i hi).2.2
 unfold panesOkI
 rw [h1, h2, hp, Bool.true_and, Bool.true_and, Bool.true_and, decide_eq_decide]
 have : s.dat.Panes.length = s.Panes.xs.length := List.length_map _
 omega
theorem winsI_no {s : StateR} {i : Nat} (hi : i < s.Wins.xs.length) (h : winB s.dat (gat encWinR s.Wins.xs i).dat = false ∨ (0 < i ∧ (gat encWinR s.Wins.xs i).Id ≤ (gat encWinR s.Wins.xs (i - 1)).Id)) : winsC s.dat = false := by
 cases hq : winsC s.dat with
 | false => rfl
 | true =>
  exfalso
  have h1 := winsC_iff.1 hq i hi
  rcases h with h | h
  ·rw [h] at h1; exact absurd h1.1 (by decide)
  ·have := h1.2 h.1; omega
theorem sessC_no {s : StateR} {i : Nat} (hi : i < s.Sess.xs.length) (h : sessB (gat encSessR s.Sess.xs i).dat = false ∨ findI (fun q : SessD => decide (q.Name = (gat encSessR s.Sess.xs i).Name)) s.dat.Sess ≠ i) : sessC s.dat = false := by
 cases hq : sessC s.dat with
 | false => rfl
 | true =>
  exfalso
  unfold sessC at hq
  rw [Bool.and_eq_true, show s.dat.Sess = s.Sess.xs.map SessR.dat from rfl, all_map_gat (F := encSessR)] at hq
  rcases h with h | h
  ·rw [hq.1 i hi] at h; cases h
  ·exact h (sessC_names.1 hq.2 i hi)
theorem sessC_yes {s : StateR} (h : ∀ i, i < s.Sess.xs.length → sessB (gat encSessR s.Sess.xs i).dat = true ∧ findI (fun q : SessD => decide (q.Name = (gat encSessR s.Sess.xs i).Name)) s.dat.Sess = i) : sessC s.dat = true := by
 unfold sessC
 rw [Bool.and_eq_true, show s.dat.Sess = s.Sess.xs.map SessR.dat from rfl, all_map_gat (F := encSessR)]
 exact ⟨fun i hi => (h i hi).1, sessC_names.2 fun i hi => (h i hi).2⟩
theorem all1_no {s : StateR} {l : List Int} {i : Nat} (hl : treesL s.dat.Wins = l) (hi : i < l.length) (h : hasI (l.take i) (iat l i) = true ∨ hasI (pIds s.dat) (iat l i) = false) : all1 s.dat = false := by
 cases hq : all1 s.dat with
 | false => rfl
 | true =>
  exfalso
  unfold all1 at hq
  rw [hl] at hq
  simp only [Bool.and_eq_true, decide_eq_true_eq, List.all_eq_true] at hq
  rcases h with h | h
  ·unfold hasI at h
   have hm := of_decide_eq_true h
   obtain ⟨j, hj, he⟩ := List.mem_iff_getElem.1 hm
   rw [List.length_take] at hj
   rw [List.getElem_take] at he
   have hn := hq.1.1
   unfold List.Nodup at hn
   rw [List.pairwise_iff_getElem] at hn
   refine hn j i (by omega) hi (by omega) ?_
   have e1 := gat_get (F := encI) hi
   rw [List.getElem?_eq_getElem hi] at e1
   rw [he, Option.some.inj e1]
  ·have := hq.1.2 (iat l i) (gat_mem hi)
   rw [h] at this; cases this
theorem all_yes {l b : List Int} (h : ∀ i, i < l.length → hasI (l.take i) (iat l i) = false ∧ hasI b (iat l i) = true) : l.Nodup ∧ (l.all fun x => hasI b x) = true := by
 have hat : ∀ j (hj : j < l.length), l[j] = iat l j := fun j hj => by
  have e1 := gat_get (F := encI) hj
  rw [List.getElem?_eq_getElem hj] at e1
  exact Option.some.inj e1
 refine ⟨?_, ?_⟩
 ·unfold List.Nodup
  rw [List.pairwise_iff_getElem]
  intro i j hi hj hij he
  have h1 := (h j hj).1
  unfold hasI at h1
  rw [decide_eq_false_iff_not] at h1
  apply h1
  rw [← hat j hj, ← he]
  exact List.mem_iff_getElem.2 ⟨i, by rw [List.length_take]; omega, by rw [List.getElem_take]⟩
 ·rw [List.all_eq_true]
  intro x hx
  obtain ⟨i, hi, rfl⟩ := List.mem_iff_getElem.1 hx
  rw [hat i hi]
  exact (h i hi).2
theorem all2_no {s : StateR} {l : List Int} {i : Nat} (hl : sessL s.dat.Sess = l) (hi : i < l.length) (h : hasI (l.take i) (iat l i) = true ∨ hasI (wIds s.dat) (iat l i) = false) : all2 s.dat = false := by
 cases hq : all2 s.dat with
 | false => rfl
 | true =>
  exfalso
  unfold all2 at hq
  rw [hl] at hq
  simp only [Bool.and_eq_true, decide_eq_true_eq, List.all_eq_true] at hq
  rcases h with h | h
  ·unfold hasI at h
   have hm := of_decide_eq_true h
   obtain ⟨j, hj, he⟩ := List.mem_iff_getElem.1 hm
   rw [List.length_take] at hj
   rw [List.getElem_take] at he
   have hn := hq.1.1
   unfold List.Nodup at hn
   rw [List.pairwise_iff_getElem] at hn
   refine hn j i (by omega) hi (by omega) ?_
   have e1 := gat_get (F := encI) hi
   rw [List.getElem?_eq_getElem hi] at e1
   rw [he, Option.some.inj e1]
  ·have := hq.1.2 (iat l i) (gat_mem hi)
   rw [h] at this; cases this
theorem sessL_take_le {s : StateR} {i : Nat} (hT : totState s.dat ≤ 1048576) : (sessL ((s.Sess.xs.take i).map SessR.dat)).length ≤ 1048576 := by
 have h1 := sessL_sum (l := s.dat.Sess)
 have h2 : (sessL ((s.Sess.xs.take i).map SessR.dat)).length ≤ (sessL s.dat.Sess).length := by
  have h3 : s.dat.Sess = (s.Sess.xs.take i).map SessR.dat ++ (s.Sess.xs.drop i).map SessR.dat := by
   rw [← List.map_append, List.take_append_drop]; rfl
  rw [h3]
  unfold sessL
  rw [List.flatMap_append, List.length_append]
  omega
 have h4 : tots totSess s.dat.Sess ≤ 1048576 := by
  have : totState s.dat = tots totPane s.dat.Panes + tots totWin s.dat.Wins + tots totSess s.dat.Sess := rfl
  omega
 unfold tots at h4
 omega
theorem noWin_swap {s : StateD} : noWin s = true ↔ ∀ x, x ∈ wIds s → hasI (pIds s) x = false := by
 unfold noWin hasI
 rw [List.all_eq_true]
 constructor
 ·intro h x hx
  rw [decide_eq_false_iff_not]
  intro hm
  obtain ⟨p, hp, rfl⟩ := List.mem_map.1 hm
  have := h p hp
  rw [Bool.not_eq_true', decide_eq_false_iff_not] at this
  exact this hx
 ·intro h p hp
  rw [Bool.not_eq_true', decide_eq_false_iff_not]
  intro hm
  have := h _ hm
  rw [decide_eq_false_iff_not] at this
  exact this (List.mem_map_of_mem hp)
theorem winId_mem {s : StateR} {i : Nat} (hi : i < s.Wins.xs.length) : (gat encWinR s.Wins.xs i).Id ∈ wIds s.dat := by
 rw [wIds_R]
 exact List.mem_map_of_mem (gat_mem hi)
theorem winsS_no {s : StateR} {i : Nat} (hi : i < s.Wins.xs.length) (h : winB s.dat (gat encWinR s.Wins.xs i).dat = false ∨ (0 < i ∧ (gat encWinR s.Wins.xs i).Id ≤ (gat encWinR s.Wins.xs (i - 1)).Id) ∨ hasI (pIds s.dat) (gat encWinR s.Wins.xs i).Id = true) : winsOkS s.dat = false := by
 unfold winsOkS
 rcases h with h | h | h
 ·rw [winsI_no hi (.inl h)]; rfl
 ·rw [winsI_no hi (.inr h)]; rfl
 ·have : noWin s.dat = false := by
   rw [← Bool.not_eq_true, noWin_swap]
   intro h9
   rw [h9 _ (winId_mem hi)] at h; cases h
  rw [this, Bool.and_false]; rfl
theorem winsS_yes {s : StateR} (h : ∀ i, i < s.Wins.xs.length → (winB s.dat (gat encWinR s.Wins.xs i).dat = true ∧ (0 < i → (gat encWinR s.Wins.xs (i - 1)).Id < (gat encWinR s.Wins.xs i).Id)) ∧ hasI (pIds s.dat) (gat encWinR s.Wins.xs i).Id = false) : (winsC s.dat && noWin s.dat) = true := by
 rw [Bool.and_eq_true]
 refine ⟨winsC_iff.2 fun i hi => (h i hi).1, noWin_swap.2 fun x hx => ?_⟩
 rw [wIds_R] at hx
 obtain ⟨y, hy, rfl⟩ := List.mem_map.1 hx
 obtain ⟨i, hi, rfl⟩ := List.mem_iff_getElem.1 hy
 have e1 := gat_get (F := encWinR) hi
 rw [List.getElem?_eq_getElem hi] at e1
 rw [Option.some.inj e1]
 exact (h i hi).2
theorem all1_yes {s : StateR} {l : List Int} (hl : treesL s.dat.Wins = l) (h : ∀ i, i < l.length → hasI (l.take i) (iat l i) = false ∧ hasI (pIds s.dat) (iat l i) = true) : all1 s.dat = decide (l.length = s.dat.Panes.length) := by
 have h1 := all_yes h
 unfold all1
 rw [hl, decide_eq_true h1.1, h1.2, Bool.true_and, Bool.true_and]
theorem all2_yes {s : StateR} {l : List Int} (hl : sessL s.dat.Sess = l) (h : ∀ i, i < l.length → hasI (l.take i) (iat l i) = false ∧ hasI (wIds s.dat) (iat l i) = true) : all2 s.dat = decide (l.length = s.dat.Wins.length) := by
 have h1 := all_yes h
 unfold all2
 rw [hl, decide_eq_true h1.1, h1.2, Bool.true_and, Bool.true_and]
theorem panesS_no {s : StateR} {i : Nat} (hi : i < s.Panes.xs.length) (h : paneB s.dat (gat encPaneR s.Panes.xs i).dat = false ∨ (0 < i ∧ (gat encPaneR s.Panes.xs i).Id ≤ (gat encPaneR s.Panes.xs (i - 1)).Id) ∨ areaB s.dat (gat encPaneR s.Panes.xs i).dat = false) : panesOkS s.dat = false := by
 unfold panesOkS
 have hk : (panesC s.dat && areasC s.dat) = false := by
  rw [← Bool.not_eq_true]
  intro hq
  rw [Bool.and_eq_true] at hq
  have h1 := panesC_iff.1 hq.1 i hi
  have h2 := areasC_iff.1 hq.2 i hi
  rcases h with h | h | h
  ·rw [h] at h1; exact absurd h1.1 (by decide)
  ·have := h1.2 h.1; omega
  ·rw [h] at h2; cases h2
 rw [hk, Bool.false_and]
theorem panesS_yes {s : StateR} (h : ∀ i, i < s.Panes.xs.length → (paneB s.dat (gat encPaneR s.Panes.xs i).dat = true ∧ (0 < i → (gat encPaneR s.Panes.xs (i - 1)).Id < (gat encPaneR s.Panes.xs i).Id)) ∧ areaB s.dat (gat encPaneR s.Panes.xs i).dat = true) (hp : pidsC s.dat = true) : panesOkS s.dat = true := by
 unfold panesOkS
 rw [panesC_iff.2 fun i hi => (h i hi).1, areasC_iff.2 fun i hi => (h i hi).2, hp]
 rfl
theorem leaves_panes {t : List NodeD} {w h : Int} (hk : placesOk t w h = true) : leavesL t = panesL t := by
 unfold placesOk sidesOk at hk
 simp only [Bool.and_eq_true] at hk
 unfold leavesL
 rw [if_pos hk.1.1.1]
def pasteIn (g h : GridD) (x y : Int) (k : Nat) : Prop :=
 (0 ≤ ((k % g.W.toNat : Nat) : Int) - x ∧ ((k % g.W.toNat : Nat) : Int) - x < h.W) ∧ 0 ≤ ((k / g.W.toNat : Nat) : Int) - y ∧ ((k / g.W.toNat : Nat) : Int) - y < h.H
instance (g h : GridD) (x y : Int) (k : Nat) : Decidable (pasteIn g h x y k) := by unfold pasteIn; infer_instance
theorem gridFit_ok {g : GridD} {w h : Int} (hf : gridFit g w h = true) : gridOk g = true := by
 unfold gridFit at hf
 rw [Bool.and_eq_true] at hf
 exact hf.1
theorem scrOk_P {s : ScrD} (h : scrOk s = true) : scrP1 s = true ∧ scrP2 s = true ∧ scrP3 s = true ∧ scrP4 s = true ∧ isAsc s.Tabs 0 (s.W - 1) = true ∧ s.Back.all rowOk = true := by
 unfold scrOk scrIn at h
 simp only [Bool.and_eq_true] at h
 exact ⟨h.1.1.1.1, h.1.1.1.2, h.1.1.2.1, h.1.1.2.2, h.1.2, h.2⟩
theorem scrOk_main {s : ScrD} (h : scrOk s = true) : gridOk s.Main = true ∧ gridOk s.Alt = true := by
 have h1 := (scrOk_P h).1
 unfold scrP1 at h1
 rw [Bool.and_eq_true] at h1
 exact ⟨gridFit_ok h1.1, gridFit_ok h1.2⟩
theorem scrOk_bnd {s : ScrD} (h : scrOk s = true) : ((1 ≤ s.W ∧ s.W ≤ 120) ∧ (1 ≤ s.H ∧ s.H ≤ 120) ∧ s.Main.W = s.W ∧ s.Main.H = s.H ∧ s.Alt.W = s.W ∧ s.Alt.H = s.H) ∧ ((0 ≤ s.X ∧ s.X < s.W) ∧ 0 ≤ s.Y ∧ s.Y < s.H) ∧ ((0 ≤ s.SaveX ∧ s.SaveX < s.W) ∧ 0 ≤ s.SaveY ∧ s.SaveY < s.H) ∧ (0 ≤ s.Top ∧ s.Top ≤ s.Bot ∧ s.Bot < s.H) ∧ (0 ≤ s.Limit ∧ s.Limit ≤ 100) ∧ (s.Back.length : Int) ≤ s.Limit := by
 obtain ⟨h1, h2, h3, h4, _, _⟩ := scrOk_P h
 have b := scrP1_bnd h1
 unfold scrP2 gridHas at h2
 unfold scrP3 at h3
 unfold scrP4 at h4
 simp only [Bool.and_eq_true, within_iff, decide_eq_true_eq] at h2 h3 h4
 omega
theorem rowOk_len {r : RowD} (h : rowOk r = true) : r.Cells.length ≤ 120 := by
 unfold rowOk at h
 rw [Bool.and_eq_true, within_iff] at h
 omega
def partI (l : List UInt8) : List Int := l.map fun b => (b.toNat : Int)
theorem partI_take {l : List UInt8} {i : Nat} (h : i < l.length) : partI (l.take (i + 1)) = partI (l.take i) ++ [((gat encB l i).toNat : Int)] := by
 unfold partI
 rw [List.take_add_one, gat_get (F := encB) h, List.map_append]
 rfl
theorem numsL_append (a b : List Int) : numsL (a ++ b) = numsL a ++ numsL b := by unfold numsL; rw [List.flatMap_append]
theorem numsL_one (x : Int) : numsL [x] = varL x.toNat := by simp [numsL]
def bitI (b : Bool) (k : Int) : Int := if b = true then k else 0
theorem bitI_bnd {b : Bool} {k : Int} (h : 0 ≤ k) : 0 ≤ bitI b k ∧ bitI b k ≤ k := by unfold bitI; split <;> omega
def flagsI (a b c d e : Bool) : Int := bitI a 1 + bitI b 2 + bitI c 4 + bitI d 8 + bitI e 16
def flagsL (l : List Bool) : Int := l.foldr (fun b r => r * 2 + bitI b 1) 0
theorem flagsL_bnd : ∀ l : List Bool, 0 ≤ flagsL l ∧ flagsL l + 1 ≤ 2 ^ l.length
 | [] => by simp [flagsL]
 | b :: r => by
  have h := flagsL_bnd r
  have h1 : 0 ≤ bitI b 1 ∧ bitI b 1 ≤ 1 := bitI_bnd (by decide)
  have e : flagsL (b :: r) = flagsL r * 2 + bitI b 1 := rfl
  rw [e, List.length_cons, Int.pow_succ]
  omega
theorem flagsL_le {l : List Bool} (h : l.length ≤ 5) : 0 ≤ flagsL l ∧ flagsL l ≤ 31 := by
 have h1 := flagsL_bnd l
 have h2 : l.length = 0 ∨ l.length = 1 ∨ l.length = 2 ∨ l.length = 3 ∨ l.length = 4 ∨ l.length = 5 := by omega
 rcases h2 with h2 | h2 | h2 | h2 | h2 | h2 <;> rw [h2] at h1 <;> omega
theorem flagsL_drop {l : List Bool} {i : Nat} (h : i < l.length) : flagsL (l.drop i) = flagsL (l.drop (i + 1)) * 2 + bitI (gat encT l i) 1 := by
 rw [List.drop_eq_getElem_cons h]
 have e : gat encT l i = l[i] := by have := gat_get (F := encT) h; rw [List.getElem?_eq_getElem h] at this; exact (Option.some.inj this).symm
 rw [e]; rfl
theorem flagsL_5 (a b c d e : Bool) : flagsL [a, b, c, d, e] = flagsI a b c d e := by
 cases a <;> cases b <;> cases c <;> cases d <;> cases e <;> rfl
theorem attrNum_bnd {a : AttrD} (h : attrOk a.Fg a.Bg = true) : 0 ≤ attrNum a ∧ attrNum a ≤ 647 := by
 have := cellOk_bounds (c := ⟨32, a⟩) (by unfold cellOk; rw [h]; rfl)
 exact this.2.2.2
def headL (t : TermD) : List Int := [t.S.W, t.S.H, flagsI t.S.OnAlt t.S.Wrap t.S.NoWrap t.S.Hide t.P.Mark, t.S.X, t.S.Y, attrNum t.S.A, t.S.Top, t.S.Bot, t.S.SaveX, t.S.SaveY, attrNum t.S.SaveA, t.S.Limit, t.P.State]
def rowsL (b : List RowD) : List UInt8 := b.flatMap fun r => varL r.Cells.length ++ cellsB r.Cells
def termL (t : TermD) : List UInt8 := numsL (headL t) ++ varL t.P.Args.length ++ numsL t.P.Args ++ varL t.P.Part.length ++ numsL (partI t.P.Part) ++ varL t.S.Tabs.length ++ numsL t.S.Tabs ++ cellsB t.S.Main.Cells ++ cellsB t.S.Alt.Cells ++ varL t.S.Back.length ++ rowsL t.S.Back
def termFine (t : TermD) : Bool := termOk t && decide ((termL t).length ≤ 40000)
def termOut (t : TermD) : List UInt8 := if termFine t = true then termL t else []
theorem termOut_len (t : TermD) : (termOut t).length ≤ 40000 := by
 unfold termOut
 split
 ·rename_i h
  unfold termFine at h
  rw [Bool.and_eq_true, decide_eq_true_eq] at h
  exact h.2
 ·exact Nat.zero_le _
theorem termOk_P {t : TermD} (h : termOk t = true) : vpOk t.P = true ∧ scrOk t.S = true := by
 unfold termOk at h
 rwa [Bool.and_eq_true] at h
theorem vpOk_bnd {v : VpD} (h : vpOk v = true) : (0 ≤ v.State ∧ v.State ≤ 3) ∧ v.Args.length ≤ 8 ∧ ∀ x, x ∈ v.Args → 0 ≤ x ∧ x ≤ 9999 := by
 unfold vpOk at h
 split at h
 ·simp only [Bool.and_eq_true, decide_eq_true_eq] at h
  have h0 : v.Args = [] := List.eq_nil_of_length_eq_zero h.1.2
  rw [h0]
  exact ⟨by omega, by simp, by simp⟩
 ·split at h
  ·simp only [Bool.and_eq_true, decide_eq_true_eq] at h
   have h0 : v.Args = [] := List.eq_nil_of_length_eq_zero h.1.2
   rw [h0]
   exact ⟨by omega, by simp, by simp⟩
  ·split at h
   ·rename_i h3
    unfold areArgs at h
    simp only [Bool.and_eq_true, decide_eq_true_eq, List.all_eq_true, within_iff] at h
    exact ⟨by omega, h.1.1, fun x hx => h.1.2 x hx⟩
   ·cases h
theorem scrOk_attr {s : ScrD} (h : scrOk s = true) : attrOk s.A.Fg s.A.Bg = true ∧ attrOk s.SaveA.Fg s.SaveA.Bg = true := by
 have h2 := (scrOk_P h).2.1
 unfold scrP2 at h2
 simp only [Bool.and_eq_true] at h2
 exact h2.2.2
theorem scrOk_tabs {s : ScrD} (h : scrOk s = true) : ∀ x, x ∈ s.Tabs → 0 ≤ x ∧ x ≤ 119 := by
 have h2 := (scrOk_P h).2.2.2.2.1
 have h3 := (scrOk_bnd h).1
 unfold isAsc at h2
 rw [List.all_eq_true] at h2
 intro x hx
 obtain ⟨i, hi, rfl⟩ := List.mem_iff_getElem.1 hx
 have h4 := h2 i (List.mem_range.2 hi)
 unfold ascAt at h4
 rw [Bool.and_eq_true, within_iff] at h4
 have e : iat s.Tabs i = s.Tabs[i] := by have := gat_get (F := encI) hi; rw [List.getElem?_eq_getElem hi] at this; exact (Option.some.inj this).symm
 rw [e] at h4
 omega
theorem headL_bnd {t : TermD} (h : termOk t = true) : ∀ x, x ∈ headL t → 0 ≤ x ∧ x ≤ 100000 := by
 obtain ⟨h1, h2⟩ := termOk_P h
 have hv := (vpOk_bnd h1).1
 obtain ⟨b1, b2, b3, b4, b5, b6⟩ := scrOk_bnd h2
 obtain ⟨a1, a2⟩ := scrOk_attr h2
 have n1 := attrNum_bnd a1
 have n2 := attrNum_bnd a2
 have f1 : 0 ≤ bitI t.S.OnAlt 1 ∧ bitI t.S.OnAlt 1 ≤ 1 := bitI_bnd (by decide)
 have f2 : 0 ≤ bitI t.S.Wrap 2 ∧ bitI t.S.Wrap 2 ≤ 2 := bitI_bnd (by decide)
 have f3 : 0 ≤ bitI t.S.NoWrap 4 ∧ bitI t.S.NoWrap 4 ≤ 4 := bitI_bnd (by decide)
 have f4 : 0 ≤ bitI t.S.Hide 8 ∧ bitI t.S.Hide 8 ≤ 8 := bitI_bnd (by decide)
 have f5 : 0 ≤ bitI t.P.Mark 16 ∧ bitI t.P.Mark 16 ≤ 16 := bitI_bnd (by decide)
 intro x hx
 simp only [headL, flagsI, List.mem_cons, List.not_mem_nil, or_false] at hx
 rcases hx with rfl | rfl | rfl | rfl | rfl | rfl | rfl | rfl | rfl | rfl | rfl | rfl | rfl <;> omega
theorem partI_bnd {l : List UInt8} : ∀ x, x ∈ partI l → 0 ≤ x ∧ x ≤ 255 := by
 intro x hx
 obtain ⟨b, _, rfl⟩ := List.mem_map.1 hx
 have := b.toNat_lt
 omega
theorem partI_len {l : List UInt8} : (partI l).length = l.length := by simp [partI]
theorem gridOk_cells {g : GridD} (h : gridOk g = true) : g.Cells.length ≤ 4000 ∧ cellsOk g.Cells = true := by
 have b := gridOk_bnd h
 unfold gridOk at h
 rw [Bool.and_eq_true, Bool.and_eq_true, decide_eq_true_eq] at h
 exact ⟨by omega, h.2⟩
theorem rowOk_cells {r : RowD} (h : rowOk r = true) : r.Cells.length ≤ 120 ∧ cellsOk r.Cells = true := by
 have := rowOk_len h
 unfold rowOk at h
 rw [Bool.and_eq_true] at h
 exact ⟨this, h.2⟩
theorem rowsL_take {b : List RowR} {i : Nat} (h : i < b.length) : rowsL ((b.take (i + 1)).map RowR.dat) = rowsL ((b.take i).map RowR.dat) ++ (varL (gat encRowR b i).Cells.xs.length ++ cellsB (gat encRowR b i).Cells.xs) := by
 unfold rowsL
 rw [List.take_add_one, gat_get (F := encRowR) h, List.map_append, List.flatMap_append]
 simp [RowR.dat]
theorem rowsL_len {b : List RowD} (h : ∀ r, r ∈ b → rowOk r = true) : (rowsL b).length ≤ 1805 * b.length := by
 induction b with
 | nil => simp [rowsL]
 | cons r l ih =>
  have h1 := ih fun q hq => h q (List.mem_cons_of_mem _ hq)
  obtain ⟨h2, h3⟩ := rowOk_cells (h r List.mem_cons_self)
  have h4 := cellsB_len (by omega) h3
  have h5 := varL_len r.Cells.length (by omega)
  have e : rowsL (r :: l) = (varL r.Cells.length ++ cellsB r.Cells) ++ rowsL l := by simp [rowsL]
  rw [e, List.length_append, List.length_append, List.length_cons]
  omega
theorem scrOk_rows {s : ScrD} (h : scrOk s = true) : ∀ r, r ∈ s.Back → rowOk r = true := by
 have := (scrOk_P h).2.2.2.2.2
 rwa [List.all_eq_true] at this
theorem cellsOut_ok {l : List CellD} (h : l.length ≤ 4000) (hc : cellsOk l = true) : cellsOut l = cellsB l := by
 unfold cellsOut cellsFine
 rw [hc, if_pos (by simp; exact h)]
def tbt1 : TT := .node .leaf 0 ⟨.other, 1, false⟩ .leaf
def tbt2 : TT := .node tbt1 3 ⟨.int .i64, 1, false⟩ .leaf
def tbt3 : TT := .node .leaf 5 ⟨.int .u8, 1, false⟩ .leaf
def tbt4 : TT := .node tbt2 4 ⟨.bool, 1, false⟩ tbt3
def tbt5 : TT := .node .leaf 22 ⟨.slice 143, 1, false⟩ .leaf
def tbt6 : TT := .node .leaf 24 ⟨.slice 149, 1, false⟩ .leaf
def tbt7 : TT := .node tbt5 23 ⟨.slice 147, 1, false⟩ tbt6
def tbt8 : TT := .node tbt4 9 ⟨.str, 1, false⟩ tbt7
def tbt9 : TT := .node .leaf 29 ⟨.slice 93, 1, false⟩ .leaf
def tbt10 : TT := .node .leaf 31 ⟨.slice 106, 1, false⟩ .leaf
def tbt11 : TT := .node tbt9 30 ⟨.slice 58, 1, false⟩ tbt10
def tbt12 : TT := .node .leaf 37 ⟨.other, 1, false⟩ .leaf
def tbt13 : TT := .node .leaf 45 ⟨.other, 1, false⟩ .leaf
def tbt14 : TT := .node tbt12 44 ⟨.slice 5, 1, false⟩ tbt13
def tbt15 : TT := .node tbt11 33 ⟨.struct [0, 1, 2, 3, 4, 5, 6], 7, true⟩ tbt14
def tbt16 : TT := .node tbt8 26 ⟨.struct [0, 1, 2, 3, 4, 5, 6], 7, true⟩ tbt15
def tbt17 : TT := .node .leaf 58 ⟨.struct [0, 1, 2, 3, 4], 5, true⟩ .leaf
def tbt18 : TT := .node .leaf 66 ⟨.other, 1, false⟩ .leaf
def tbt19 : TT := .node tbt17 60 ⟨.slice 3, 1, false⟩ tbt18
def tbt20 : TT := .node .leaf 72 ⟨.other, 1, false⟩ .leaf
def tbt21 : TT := .node .leaf 76 ⟨.struct [0, 1, 2], 3, true⟩ .leaf
def tbt22 : TT := .node tbt20 74 ⟨.slice 164, 1, false⟩ tbt21
def tbt23 : TT := .node tbt19 71 ⟨.struct [0, 1, 2, 3, 4], 5, true⟩ tbt22
def tbt24 : TT := .node .leaf 80 ⟨.other, 1, false⟩ .leaf
def tbt25 : TT := .node .leaf 86 ⟨.struct [0, 1, 2, 3, 4], 5, true⟩ .leaf
def tbt26 : TT := .node tbt24 84 ⟨.struct [0, 1, 2, 3], 4, true⟩ tbt25
def tbt27 : TT := .node .leaf 89 ⟨.struct [0, 1, 2, 5, 8, 9, 10, 11, 12, 17, 18, 19, 20, 21, 22, 23, 28, 29, 30], 31, true⟩ .leaf
def tbt28 : TT := .node .leaf 93 ⟨.struct [0, 1, 2, 3, 4, 5, 6], 41, true⟩ .leaf
def tbt29 : TT := .node tbt27 91 ⟨.struct [0, 4], 35, true⟩ tbt28
def tbt30 : TT := .node tbt26 87 ⟨.slice 181, 1, false⟩ tbt29
def tbt31 : TT := .node tbt23 77 ⟨.other, 1, false⟩ tbt30
def tbt32 : TT := .node tbt16 56 ⟨.slice 103, 1, false⟩ tbt31
def tbt33 : TT := .node .leaf 103 ⟨.struct [0, 1, 2], 3, true⟩ .leaf
def tbt34 : TT := .node .leaf 132 ⟨.struct [0, 1, 2, 3], 4, true⟩ .leaf
def tbt35 : TT := .node tbt33 106 ⟨.struct [0, 1, 2], 3, true⟩ tbt34
def tbt36 : TT := .node .leaf 135 ⟨.struct [0, 1, 2], 3, true⟩ .leaf
def tbt37 : TT := .node .leaf 137 ⟨.slice 285, 1, false⟩ .leaf
def tbt38 : TT := .node tbt36 136 ⟨.struct [0, 1, 2, 3, 4], 5, true⟩ tbt37
def tbt39 : TT := .node tbt35 133 ⟨.slice 308, 1, false⟩ tbt38
def tbt40 : TT := .node .leaf 141 ⟨.struct [0, 4], 35, true⟩ .leaf
def tbt41 : TT := .node .leaf 145 ⟨.slice 230, 1, false⟩ .leaf
def tbt42 : TT := .node tbt40 143 ⟨.struct [0, 1, 2, 3, 4, 5, 6], 41, true⟩ tbt41
def tbt43 : TT := .node .leaf 149 ⟨.struct [0, 1, 2], 3, true⟩ .leaf
def tbt44 : TT := .node .leaf 159 ⟨.other, 1, false⟩ .leaf
def tbt45 : TT := .node tbt43 158 ⟨.slice 71, 1, false⟩ tbt44
def tbt46 : TT := .node tbt42 147 ⟨.struct [0, 1, 2, 3, 4], 5, true⟩ tbt45
def tbt47 : TT := .node tbt39 139 ⟨.struct [0, 1, 2, 5, 8, 9, 10, 11, 12, 17, 18, 19, 20, 21, 22, 23, 28, 29, 30], 31, true⟩ tbt46
def tbt48 : TT := .node .leaf 164 ⟨.struct [0, 1], 6, true⟩ .leaf
def tbt49 : TT := .node .leaf 177 ⟨.slice 4, 1, false⟩ .leaf
def tbt50 : TT := .node tbt48 168 ⟨.other, 1, false⟩ tbt49
def tbt51 : TT := .node .leaf 206 ⟨.other, 1, false⟩ .leaf
def tbt52 : TT := .node .leaf 230 ⟨.struct [0, 1, 2], 3, true⟩ .leaf
def tbt53 : TT := .node tbt51 210 ⟨.other, 1, false⟩ tbt52
def tbt54 : TT := .node tbt50 181 ⟨.struct [0], 1, true⟩ tbt53
def tbt55 : TT := .node .leaf 239 ⟨.other, 1, false⟩ .leaf
def tbt56 : TT := .node .leaf 263 ⟨.other, 1, false⟩ .leaf
def tbt57 : TT := .node tbt55 244 ⟨.slice 76, 1, false⟩ tbt56
def tbt58 : TT := .node .leaf 273 ⟨.other, 1, false⟩ .leaf
def tbt59 : TT := .node .leaf 308 ⟨.struct [0, 1], 6, true⟩ .leaf
def tbt60 : TT := .node tbt58 285 ⟨.struct [0], 1, true⟩ tbt59
def tbt61 : TT := .node tbt57 272 ⟨.other, 1, false⟩ tbt60
def tbt62 : TT := .node tbt54 233 ⟨.int .u64, 1, false⟩ tbt61
def tbt63 : TT := .node tbt47 162 ⟨.other, 1, false⟩ tbt62
def tbt64 : TT := .node tbt32 94 ⟨.other, 1, false⟩ tbt63
theorem tbt1_ok : tbt1.Ok Tryz.prog := ⟨trivial, ⟨trivial, Tryz.sizeOf0, Tryz.isAgg0⟩, trivial⟩
theorem tbt2_ok : tbt2.Ok Tryz.prog := ⟨tbt1_ok, ⟨Tryz.runUnderlying3, Tryz.sizeOf3, Tryz.isAgg3⟩, trivial⟩
theorem tbt3_ok : tbt3.Ok Tryz.prog := ⟨trivial, ⟨Tryz.runUnderlying5, Tryz.sizeOf5, Tryz.isAgg5⟩, trivial⟩
theorem tbt4_ok : tbt4.Ok Tryz.prog := ⟨tbt2_ok, ⟨Tryz.runUnderlying4, Tryz.sizeOf4, Tryz.isAgg4⟩, tbt3_ok⟩
theorem tbt5_ok : tbt5.Ok Tryz.prog := ⟨trivial, ⟨Tryz.runUnderlying22, Tryz.sizeOf22, Tryz.isAgg22⟩, trivial⟩
theorem tbt6_ok : tbt6.Ok Tryz.prog := ⟨trivial, ⟨Tryz.runUnderlying24, Tryz.sizeOf24, Tryz.isAgg24⟩, trivial⟩
theorem tbt7_ok : tbt7.Ok Tryz.prog := ⟨tbt5_ok, ⟨Tryz.runUnderlying23, Tryz.sizeOf23, Tryz.isAgg23⟩, tbt6_ok⟩
theorem tbt8_ok : tbt8.Ok Tryz.prog := ⟨tbt4_ok, ⟨Tryz.runUnderlying9, Tryz.sizeOf9, Tryz.isAgg9⟩, tbt7_ok⟩
theorem tbt9_ok : tbt9.Ok Tryz.prog := ⟨trivial, ⟨Tryz.runUnderlying29, Tryz.sizeOf29, Tryz.isAgg29⟩, trivial⟩
theorem tbt10_ok : tbt10.Ok Tryz.prog := ⟨trivial, ⟨Tryz.runUnderlying31, Tryz.sizeOf31, Tryz.isAgg31⟩, trivial⟩
theorem tbt11_ok : tbt11.Ok Tryz.prog := ⟨tbt9_ok, ⟨Tryz.runUnderlying30, Tryz.sizeOf30, Tryz.isAgg30⟩, tbt10_ok⟩
theorem tbt12_ok : tbt12.Ok Tryz.prog := ⟨trivial, ⟨trivial, Tryz.sizeOf37, Tryz.isAgg37⟩, trivial⟩
theorem tbt13_ok : tbt13.Ok Tryz.prog := ⟨trivial, ⟨trivial, Tryz.sizeOf45, Tryz.isAgg45⟩, trivial⟩
theorem tbt14_ok : tbt14.Ok Tryz.prog := ⟨tbt12_ok, ⟨Tryz.runUnderlying44, Tryz.sizeOf44, Tryz.isAgg44⟩, tbt13_ok⟩
theorem tbt15_ok : tbt15.Ok Tryz.prog := ⟨tbt11_ok, ⟨⟨_, Tryz.runUnderlying33, rfl, ⟨⟨_, Tryz.sizeOf3, rfl⟩, ⟨⟨_, Tryz.sizeOf3, rfl⟩, ⟨⟨_, Tryz.sizeOf3, rfl⟩, ⟨⟨_, Tryz.sizeOf3, rfl⟩, ⟨⟨_, Tryz.sizeOf29, rfl⟩, ⟨⟨_, Tryz.sizeOf30, rfl⟩, ⟨⟨_, Tryz.sizeOf31, rfl⟩, trivial⟩⟩⟩⟩⟩⟩⟩⟩, Tryz.sizeOf33, Tryz.isAgg33⟩, tbt14_ok⟩
theorem tbt16_ok : tbt16.Ok Tryz.prog := ⟨tbt8_ok, ⟨⟨_, Tryz.runUnderlying26, rfl, ⟨⟨_, Tryz.sizeOf3, rfl⟩, ⟨⟨_, Tryz.sizeOf3, rfl⟩, ⟨⟨_, Tryz.sizeOf3, rfl⟩, ⟨⟨_, Tryz.sizeOf3, rfl⟩, ⟨⟨_, Tryz.sizeOf22, rfl⟩, ⟨⟨_, Tryz.sizeOf23, rfl⟩, ⟨⟨_, Tryz.sizeOf24, rfl⟩, trivial⟩⟩⟩⟩⟩⟩⟩⟩, Tryz.sizeOf26, Tryz.isAgg26⟩, tbt15_ok⟩
theorem tbt17_ok : tbt17.Ok Tryz.prog := ⟨trivial, ⟨⟨_, Tryz.runUnderlying58, rfl, ⟨⟨_, Tryz.sizeOf3, rfl⟩, ⟨⟨_, Tryz.sizeOf9, rfl⟩, ⟨⟨_, Tryz.sizeOf56, rfl⟩, ⟨⟨_, Tryz.sizeOf3, rfl⟩, ⟨⟨_, Tryz.sizeOf4, rfl⟩, trivial⟩⟩⟩⟩⟩⟩, Tryz.sizeOf58, Tryz.isAgg58⟩, trivial⟩
theorem tbt18_ok : tbt18.Ok Tryz.prog := ⟨trivial, ⟨trivial, Tryz.sizeOf66, Tryz.isAgg66⟩, trivial⟩
theorem tbt19_ok : tbt19.Ok Tryz.prog := ⟨tbt17_ok, ⟨Tryz.runUnderlying60, Tryz.sizeOf60, Tryz.isAgg60⟩, tbt18_ok⟩
theorem tbt20_ok : tbt20.Ok Tryz.prog := ⟨trivial, ⟨trivial, Tryz.sizeOf72, Tryz.isAgg72⟩, trivial⟩
theorem tbt21_ok : tbt21.Ok Tryz.prog := ⟨trivial, ⟨⟨_, Tryz.runUnderlying76, rfl, ⟨⟨_, Tryz.sizeOf3, rfl⟩, ⟨⟨_, Tryz.sizeOf3, rfl⟩, ⟨⟨_, Tryz.sizeOf74, rfl⟩, trivial⟩⟩⟩⟩, Tryz.sizeOf76, Tryz.isAgg76⟩, trivial⟩
theorem tbt22_ok : tbt22.Ok Tryz.prog := ⟨tbt20_ok, ⟨Tryz.runUnderlying74, Tryz.sizeOf74, Tryz.isAgg74⟩, tbt21_ok⟩
theorem tbt23_ok : tbt23.Ok Tryz.prog := ⟨tbt19_ok, ⟨⟨_, Tryz.runUnderlying71, rfl, ⟨⟨_, Tryz.sizeOf3, rfl⟩, ⟨⟨_, Tryz.sizeOf3, rfl⟩, ⟨⟨_, Tryz.sizeOf3, rfl⟩, ⟨⟨_, Tryz.sizeOf3, rfl⟩, ⟨⟨_, Tryz.sizeOf3, rfl⟩, trivial⟩⟩⟩⟩⟩⟩, Tryz.sizeOf71, Tryz.isAgg71⟩, tbt22_ok⟩
theorem tbt24_ok : tbt24.Ok Tryz.prog := ⟨trivial, ⟨trivial, Tryz.sizeOf80, Tryz.isAgg80⟩, trivial⟩
theorem tbt25_ok : tbt25.Ok Tryz.prog := ⟨trivial, ⟨⟨_, Tryz.runUnderlying86, rfl, ⟨⟨_, Tryz.sizeOf3, rfl⟩, ⟨⟨_, Tryz.sizeOf3, rfl⟩, ⟨⟨_, Tryz.sizeOf4, rfl⟩, ⟨⟨_, Tryz.sizeOf4, rfl⟩, ⟨⟨_, Tryz.sizeOf4, rfl⟩, trivial⟩⟩⟩⟩⟩⟩, Tryz.sizeOf86, Tryz.isAgg86⟩, trivial⟩
theorem tbt26_ok : tbt26.Ok Tryz.prog := ⟨tbt24_ok, ⟨⟨_, Tryz.runUnderlying84, rfl, ⟨⟨_, Tryz.sizeOf3, rfl⟩, ⟨⟨_, Tryz.sizeOf4, rfl⟩, ⟨⟨_, Tryz.sizeOf60, rfl⟩, ⟨⟨_, Tryz.sizeOf44, rfl⟩, trivial⟩⟩⟩⟩⟩, Tryz.sizeOf84, Tryz.isAgg84⟩, tbt25_ok⟩
theorem tbt27_ok : tbt27.Ok Tryz.prog := ⟨trivial, ⟨⟨_, Tryz.runUnderlying89, rfl, ⟨⟨_, Tryz.sizeOf3, rfl⟩, ⟨⟨_, Tryz.sizeOf3, rfl⟩, ⟨⟨_, Tryz.sizeOf76, rfl⟩, ⟨⟨_, Tryz.sizeOf76, rfl⟩, ⟨⟨_, Tryz.sizeOf4, rfl⟩, ⟨⟨_, Tryz.sizeOf3, rfl⟩, ⟨⟨_, Tryz.sizeOf3, rfl⟩, ⟨⟨_, Tryz.sizeOf4, rfl⟩, ⟨⟨_, Tryz.sizeOf86, rfl⟩, ⟨⟨_, Tryz.sizeOf3, rfl⟩, ⟨⟨_, Tryz.sizeOf3, rfl⟩, ⟨⟨_, Tryz.sizeOf4, rfl⟩, ⟨⟨_, Tryz.sizeOf4, rfl⟩, ⟨⟨_, Tryz.sizeOf3, rfl⟩, ⟨⟨_, Tryz.sizeOf3, rfl⟩, ⟨⟨_, Tryz.sizeOf86, rfl⟩, ⟨⟨_, Tryz.sizeOf60, rfl⟩, ⟨⟨_, Tryz.sizeOf3, rfl⟩, ⟨⟨_, Tryz.sizeOf87, rfl⟩, trivial⟩⟩⟩⟩⟩⟩⟩⟩⟩⟩⟩⟩⟩⟩⟩⟩⟩⟩⟩⟩, Tryz.sizeOf89, Tryz.isAgg89⟩, trivial⟩
theorem tbt28_ok : tbt28.Ok Tryz.prog := ⟨trivial, ⟨⟨_, Tryz.runUnderlying93, rfl, ⟨⟨_, Tryz.sizeOf3, rfl⟩, ⟨⟨_, Tryz.sizeOf9, rfl⟩, ⟨⟨_, Tryz.sizeOf9, rfl⟩, ⟨⟨_, Tryz.sizeOf3, rfl⟩, ⟨⟨_, Tryz.sizeOf3, rfl⟩, ⟨⟨_, Tryz.sizeOf3, rfl⟩, ⟨⟨_, Tryz.sizeOf91, rfl⟩, trivial⟩⟩⟩⟩⟩⟩⟩⟩, Tryz.sizeOf93, Tryz.isAgg93⟩, trivial⟩
theorem tbt29_ok : tbt29.Ok Tryz.prog := ⟨tbt27_ok, ⟨⟨_, Tryz.runUnderlying91, rfl, ⟨⟨_, Tryz.sizeOf84, rfl⟩, ⟨⟨_, Tryz.sizeOf89, rfl⟩, trivial⟩⟩⟩, Tryz.sizeOf91, Tryz.isAgg91⟩, tbt28_ok⟩
theorem tbt30_ok : tbt30.Ok Tryz.prog := ⟨tbt26_ok, ⟨Tryz.runUnderlying87, Tryz.sizeOf87, Tryz.isAgg87⟩, tbt29_ok⟩
theorem tbt31_ok : tbt31.Ok Tryz.prog := ⟨tbt23_ok, ⟨trivial, Tryz.sizeOf77, Tryz.isAgg77⟩, tbt30_ok⟩
theorem tbt32_ok : tbt32.Ok Tryz.prog := ⟨tbt16_ok, ⟨Tryz.runUnderlying56, Tryz.sizeOf56, Tryz.isAgg56⟩, tbt31_ok⟩
theorem tbt33_ok : tbt33.Ok Tryz.prog := ⟨trivial, ⟨⟨_, Tryz.runUnderlying103, rfl, ⟨⟨_, Tryz.sizeOf3, rfl⟩, ⟨⟨_, Tryz.sizeOf4, rfl⟩, ⟨⟨_, Tryz.sizeOf3, rfl⟩, trivial⟩⟩⟩⟩, Tryz.sizeOf103, Tryz.isAgg103⟩, trivial⟩
theorem tbt34_ok : tbt34.Ok Tryz.prog := ⟨trivial, ⟨⟨_, Tryz.runUnderlying132, rfl, ⟨⟨_, Tryz.sizeOf3, rfl⟩, ⟨⟨_, Tryz.sizeOf4, rfl⟩, ⟨⟨_, Tryz.sizeOf60, rfl⟩, ⟨⟨_, Tryz.sizeOf44, rfl⟩, trivial⟩⟩⟩⟩⟩, Tryz.sizeOf132, Tryz.isAgg132⟩, trivial⟩
theorem tbt35_ok : tbt35.Ok Tryz.prog := ⟨tbt33_ok, ⟨⟨_, Tryz.runUnderlying106, rfl, ⟨⟨_, Tryz.sizeOf9, rfl⟩, ⟨⟨_, Tryz.sizeOf60, rfl⟩, ⟨⟨_, Tryz.sizeOf3, rfl⟩, trivial⟩⟩⟩⟩, Tryz.sizeOf106, Tryz.isAgg106⟩, tbt34_ok⟩
theorem tbt36_ok : tbt36.Ok Tryz.prog := ⟨trivial, ⟨⟨_, Tryz.runUnderlying135, rfl, ⟨⟨_, Tryz.sizeOf3, rfl⟩, ⟨⟨_, Tryz.sizeOf3, rfl⟩, ⟨⟨_, Tryz.sizeOf133, rfl⟩, trivial⟩⟩⟩⟩, Tryz.sizeOf135, Tryz.isAgg135⟩, trivial⟩
theorem tbt37_ok : tbt37.Ok Tryz.prog := ⟨trivial, ⟨Tryz.runUnderlying137, Tryz.sizeOf137, Tryz.isAgg137⟩, trivial⟩
theorem tbt38_ok : tbt38.Ok Tryz.prog := ⟨tbt36_ok, ⟨⟨_, Tryz.runUnderlying136, rfl, ⟨⟨_, Tryz.sizeOf3, rfl⟩, ⟨⟨_, Tryz.sizeOf3, rfl⟩, ⟨⟨_, Tryz.sizeOf4, rfl⟩, ⟨⟨_, Tryz.sizeOf4, rfl⟩, ⟨⟨_, Tryz.sizeOf4, rfl⟩, trivial⟩⟩⟩⟩⟩⟩, Tryz.sizeOf136, Tryz.isAgg136⟩, tbt37_ok⟩
theorem tbt39_ok : tbt39.Ok Tryz.prog := ⟨tbt35_ok, ⟨Tryz.runUnderlying133, Tryz.sizeOf133, Tryz.isAgg133⟩, tbt38_ok⟩
theorem tbt40_ok : tbt40.Ok Tryz.prog := ⟨trivial, ⟨⟨_, Tryz.runUnderlying141, rfl, ⟨⟨_, Tryz.sizeOf132, rfl⟩, ⟨⟨_, Tryz.sizeOf139, rfl⟩, trivial⟩⟩⟩, Tryz.sizeOf141, Tryz.isAgg141⟩, trivial⟩
theorem tbt41_ok : tbt41.Ok Tryz.prog := ⟨trivial, ⟨Tryz.runUnderlying145, Tryz.sizeOf145, Tryz.isAgg145⟩, trivial⟩
theorem tbt42_ok : tbt42.Ok Tryz.prog := ⟨tbt40_ok, ⟨⟨_, Tryz.runUnderlying143, rfl, ⟨⟨_, Tryz.sizeOf3, rfl⟩, ⟨⟨_, Tryz.sizeOf9, rfl⟩, ⟨⟨_, Tryz.sizeOf9, rfl⟩, ⟨⟨_, Tryz.sizeOf3, rfl⟩, ⟨⟨_, Tryz.sizeOf3, rfl⟩, ⟨⟨_, Tryz.sizeOf3, rfl⟩, ⟨⟨_, Tryz.sizeOf141, rfl⟩, trivial⟩⟩⟩⟩⟩⟩⟩⟩, Tryz.sizeOf143, Tryz.isAgg143⟩, tbt41_ok⟩
theorem tbt43_ok : tbt43.Ok Tryz.prog := ⟨trivial, ⟨⟨_, Tryz.runUnderlying149, rfl, ⟨⟨_, Tryz.sizeOf9, rfl⟩, ⟨⟨_, Tryz.sizeOf60, rfl⟩, ⟨⟨_, Tryz.sizeOf3, rfl⟩, trivial⟩⟩⟩⟩, Tryz.sizeOf149, Tryz.isAgg149⟩, trivial⟩
theorem tbt44_ok : tbt44.Ok Tryz.prog := ⟨trivial, ⟨trivial, Tryz.sizeOf159, Tryz.isAgg159⟩, trivial⟩
theorem tbt45_ok : tbt45.Ok Tryz.prog := ⟨tbt43_ok, ⟨Tryz.runUnderlying158, Tryz.sizeOf158, Tryz.isAgg158⟩, tbt44_ok⟩
theorem tbt46_ok : tbt46.Ok Tryz.prog := ⟨tbt42_ok, ⟨⟨_, Tryz.runUnderlying147, rfl, ⟨⟨_, Tryz.sizeOf3, rfl⟩, ⟨⟨_, Tryz.sizeOf9, rfl⟩, ⟨⟨_, Tryz.sizeOf145, rfl⟩, ⟨⟨_, Tryz.sizeOf3, rfl⟩, ⟨⟨_, Tryz.sizeOf4, rfl⟩, trivial⟩⟩⟩⟩⟩⟩, Tryz.sizeOf147, Tryz.isAgg147⟩, tbt45_ok⟩
theorem tbt47_ok : tbt47.Ok Tryz.prog := ⟨tbt39_ok, ⟨⟨_, Tryz.runUnderlying139, rfl, ⟨⟨_, Tryz.sizeOf3, rfl⟩, ⟨⟨_, Tryz.sizeOf3, rfl⟩, ⟨⟨_, Tryz.sizeOf135, rfl⟩, ⟨⟨_, Tryz.sizeOf135, rfl⟩, ⟨⟨_, Tryz.sizeOf4, rfl⟩, ⟨⟨_, Tryz.sizeOf3, rfl⟩, ⟨⟨_, Tryz.sizeOf3, rfl⟩, ⟨⟨_, Tryz.sizeOf4, rfl⟩, ⟨⟨_, Tryz.sizeOf136, rfl⟩, ⟨⟨_, Tryz.sizeOf3, rfl⟩, ⟨⟨_, Tryz.sizeOf3, rfl⟩, ⟨⟨_, Tryz.sizeOf4, rfl⟩, ⟨⟨_, Tryz.sizeOf4, rfl⟩, ⟨⟨_, Tryz.sizeOf3, rfl⟩, ⟨⟨_, Tryz.sizeOf3, rfl⟩, ⟨⟨_, Tryz.sizeOf136, rfl⟩, ⟨⟨_, Tryz.sizeOf60, rfl⟩, ⟨⟨_, Tryz.sizeOf3, rfl⟩, ⟨⟨_, Tryz.sizeOf137, rfl⟩, trivial⟩⟩⟩⟩⟩⟩⟩⟩⟩⟩⟩⟩⟩⟩⟩⟩⟩⟩⟩⟩, Tryz.sizeOf139, Tryz.isAgg139⟩, tbt46_ok⟩
theorem tbt48_ok : tbt48.Ok Tryz.prog := ⟨trivial, ⟨⟨_, Tryz.runUnderlying164, rfl, ⟨⟨_, Tryz.sizeOf3, rfl⟩, ⟨⟨_, Tryz.sizeOf86, rfl⟩, trivial⟩⟩⟩, Tryz.sizeOf164, Tryz.isAgg164⟩, trivial⟩
theorem tbt49_ok : tbt49.Ok Tryz.prog := ⟨trivial, ⟨Tryz.runUnderlying177, Tryz.sizeOf177, Tryz.isAgg177⟩, trivial⟩
theorem tbt50_ok : tbt50.Ok Tryz.prog := ⟨tbt48_ok, ⟨trivial, Tryz.sizeOf168, Tryz.isAgg168⟩, tbt49_ok⟩
theorem tbt51_ok : tbt51.Ok Tryz.prog := ⟨trivial, ⟨trivial, Tryz.sizeOf206, Tryz.isAgg206⟩, trivial⟩
theorem tbt52_ok : tbt52.Ok Tryz.prog := ⟨trivial, ⟨⟨_, Tryz.runUnderlying230, rfl, ⟨⟨_, Tryz.sizeOf3, rfl⟩, ⟨⟨_, Tryz.sizeOf4, rfl⟩, ⟨⟨_, Tryz.sizeOf3, rfl⟩, trivial⟩⟩⟩⟩, Tryz.sizeOf230, Tryz.isAgg230⟩, trivial⟩
theorem tbt53_ok : tbt53.Ok Tryz.prog := ⟨tbt51_ok, ⟨trivial, Tryz.sizeOf210, Tryz.isAgg210⟩, tbt52_ok⟩
theorem tbt54_ok : tbt54.Ok Tryz.prog := ⟨tbt50_ok, ⟨⟨_, Tryz.runUnderlying181, rfl, ⟨⟨_, Tryz.sizeOf74, rfl⟩, trivial⟩⟩, Tryz.sizeOf181, Tryz.isAgg181⟩, tbt53_ok⟩
theorem tbt55_ok : tbt55.Ok Tryz.prog := ⟨trivial, ⟨trivial, Tryz.sizeOf239, Tryz.isAgg239⟩, trivial⟩
theorem tbt56_ok : tbt56.Ok Tryz.prog := ⟨trivial, ⟨trivial, Tryz.sizeOf263, Tryz.isAgg263⟩, trivial⟩
theorem tbt57_ok : tbt57.Ok Tryz.prog := ⟨tbt55_ok, ⟨Tryz.runUnderlying244, Tryz.sizeOf244, Tryz.isAgg244⟩, tbt56_ok⟩
theorem tbt58_ok : tbt58.Ok Tryz.prog := ⟨trivial, ⟨trivial, Tryz.sizeOf273, Tryz.isAgg273⟩, trivial⟩
theorem tbt59_ok : tbt59.Ok Tryz.prog := ⟨trivial, ⟨⟨_, Tryz.runUnderlying308, rfl, ⟨⟨_, Tryz.sizeOf3, rfl⟩, ⟨⟨_, Tryz.sizeOf136, rfl⟩, trivial⟩⟩⟩, Tryz.sizeOf308, Tryz.isAgg308⟩, trivial⟩
theorem tbt60_ok : tbt60.Ok Tryz.prog := ⟨tbt58_ok, ⟨⟨_, Tryz.runUnderlying285, rfl, ⟨⟨_, Tryz.sizeOf133, rfl⟩, trivial⟩⟩, Tryz.sizeOf285, Tryz.isAgg285⟩, tbt59_ok⟩
theorem tbt61_ok : tbt61.Ok Tryz.prog := ⟨tbt57_ok, ⟨trivial, Tryz.sizeOf272, Tryz.isAgg272⟩, tbt60_ok⟩
theorem tbt62_ok : tbt62.Ok Tryz.prog := ⟨tbt54_ok, ⟨Tryz.runUnderlying233, Tryz.sizeOf233, Tryz.isAgg233⟩, tbt61_ok⟩
theorem tbt63_ok : tbt63.Ok Tryz.prog := ⟨tbt47_ok, ⟨trivial, Tryz.sizeOf162, Tryz.isAgg162⟩, tbt62_ok⟩
theorem tbt64_ok : tbt64.Ok Tryz.prog := ⟨tbt32_ok, ⟨trivial, Tryz.sizeOf94, Tryz.isAgg94⟩, tbt63_ok⟩
theorem tbk : TT.Ok Tryz.prog tbt64 := tbt64_ok
instance tbkI : TbOk Tryz.prog tbt64 := ⟨tbk⟩
instance mxI : Mx Tryz.prog := ⟨by kernel_rfl⟩
end Go.Proofs.YthfhhldbglaieaaGreat
