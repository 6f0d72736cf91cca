/- Walks of Go functions, printed by a program (wip/gen). -/
import Derived.Test.YtlmcekfdlgkffaaC3
namespace Go.Proofs.Ytlmcekfdlgkffaa
open Go Go.RowKit
set_option linter.unusedVariables false
set_option linter.unusedSimpArgs false
theorem c_spec_Shows (n : Int) (w : World) :
    Calls Try.prog 192 #[i64 n] w fun e w' => e = .returned (.bool (shows n)) ∧ St w [] [] w' := by
 refine enter (vs := [i64 n]) 25 Try.func192 rfl Try.ntmps192 rfl rfl ?_
 have hs1 := St.init w
 refine WC.rr tbk hs1 [] rfl trivial ?_
 refine WC.sr ?_
 refine WL.run tbk 3 hs1 [] rfl trivial ?_
 refine WL.pA tbk 2 Acts.nil hs1 [] rfl rfl rfl rfl (fun g_ => trivial) ?_
 refine WL.run tbk 1 hs1 [] rfl trivial ?_
 apply WL.gO 14 Acts.nil hs1 rfl
 ·intro g2 J3
  have qg2 := g2
  try simp only [bf, within_iff, within_not] at qg2
  refine WL.runA tbk 3 (Acts.nil.cons (j := 6) rfl g2) hs1 [] rfl trivial ?_
  refine WL.pA tbk 2 (Acts.nil.cons (j := 6) rfl g2) hs1 [] rfl rfl rfl rfl (fun g_ => trivial) ?_
  refine WL.runA tbk 1 (Acts.nil.cons (j := 6) rfl g2) hs1 [] rfl trivial ?_
  apply WL.gA 6 (Acts.nil.cons (j := 6) rfl g2) hs1 rfl
  ·intro g4 J5
   have qg4 := g4
   try simp only [bf, within_iff, within_not] at qg4
   refine WL.runA tbk 3 (Acts.nil.cons (j := 13) rfl g4) hs1 [] rfl trivial ?_
   refine WL.pO tbk 2 (Acts.nil.cons (j := 13) rfl g4) hs1 [] rfl rfl rfl rfl (fun g_ => trivial) ?_
   exact WL.eA 4 (Acts.nil.cons (j := 6) rfl g2) J5 hs1 g4 rfl rfl
  ·intro _ hs6
   exact WL.eO 6 Acts.nil J3 hs6 g2 rfl rfl
 ·intro _ hs7
  refine WL.run tbk 1 hs7 [] rfl trivial ?_
  refine WL.nil ?_
  refine WC.ret ?_
  refine retV1 rfl (resV.tmp rfl) ?_
  refine ⟨congrArg Ending.returned ?_, hs7.nil⟩
  refine congrArg Value.bool ?_; rw [Bool.eq_iff_iff]; simp [shows, within] <;> omega
theorem c_impl_AttrOk (a_Fg : Int) (a_Bg : Int) (a_Bold : Bool) (a_Under : Bool) (a_Turn : Bool) (w : World) :
    Calls Try.prog 104 #[.agg #[i64 a_Fg, i64 a_Bg, .bool a_Bold, .bool a_Under, .bool a_Turn]] w fun e w' => e = .returned (.bool (attrOk a_Fg a_Bg)) ∧ St w [] [] w' := by
 refine enter (vs := [.agg #[i64 a_Fg, i64 a_Bg, .bool a_Bold, .bool a_Under, .bool a_Turn]]) 11 Try.func104 rfl Try.ntmps104 rfl rfl ?_
 have hs1 := St.init w
 refine WC.sr ?_
 refine WL.bx hs1 rfl (fun b2 _ hs3 => ?_)
 refine WL.run tbk 1 hs3 [] rfl trivial ?_
 refine WL.nil ?_
 refine WC.sr ?_
 refine WL.run tbk 2 hs3 [0] rfl ⟨rfl, trivial⟩ ?_
 refine WL.call rfl rfl rfl (Run.call Try.call72 rfl rfl rfl) (c_impl_within _ _ _ _) ?_
 rintro _ whs4 ⟨rfl, hs4⟩
 replace hs4 := hs3.call0 hs4
 refine ⟨_, rfl, ?_⟩
 refine WL.run tbk 1 hs4 [] rfl trivial ?_
 apply WL.gA 3 Acts.nil hs4 rfl
 ·intro g5 J6
  have qg5 := g5
  try simp only [bf, within_iff, within_not] at qg5
  refine WL.runA tbk 2 (Acts.nil.cons (j := 3) rfl g5) hs4 [0] rfl ⟨rfl, trivial⟩ ?_
  refine WL.call (wantT rfl g5) rfl rfl (Run.call Try.call72 rfl rfl rfl) (c_impl_within _ _ _ _) ?_
  rintro _ whs7 ⟨rfl, hs7⟩
  replace hs7 := hs4.call0 hs7
  refine ⟨_, rfl, ?_⟩
  exact WL.eA 3 Acts.nil J6 hs7 g5 rfl rfl
 ·intro _ hs8
  refine WL.run tbk 1 hs8 [] rfl trivial ?_
  refine WL.nil ?_
  refine WC.ret ?_
  refine retV1 rfl (resV.tmp rfl) ?_
  refine ⟨congrArg Ending.returned ?_, hs8.nil⟩
  rfl
theorem c_spec_AttrOk (a_Fg : Int) (a_Bg : Int) (a_Bold : Bool) (a_Under : Bool) (a_Turn : Bool) (w : World) :
    Calls Try.prog 142 #[.agg #[i64 a_Fg, i64 a_Bg, .bool a_Bold, .bool a_Under, .bool a_Turn]] w fun e w' => e = .returned (.bool (attrOk a_Fg a_Bg)) ∧ St w [] [] w' := by
 refine enter (vs := [.agg #[i64 a_Fg, i64 a_Bg, .bool a_Bold, .bool a_Under, .bool a_Turn]]) 21 Try.func142 rfl Try.ntmps142 rfl rfl ?_
 have hs1 := St.init w
 refine WC.sr ?_
 refine WL.bx hs1 rfl (fun b2 _ hs3 => ?_)
 refine WL.run tbk 1 hs3 [] rfl trivial ?_
 refine WL.nil ?_
 refine WC.sr ?_
 refine WL.run tbk 4 hs3 [0] rfl ⟨rfl, trivial⟩ ?_
 refine WL.pA tbk 3 Acts.nil hs3 [0] rfl rfl rfl rfl (fun g_ => ⟨rfl, trivial⟩) ?_
 refine WL.run tbk 1 hs3 [] rfl trivial ?_
 refine WL.pA tbk 3 Acts.nil hs3 [0] rfl rfl rfl rfl (fun g_ => ⟨rfl, trivial⟩) ?_
 refine WL.run tbk 1 hs3 [] rfl trivial ?_
 refine WL.pA tbk 3 Acts.nil hs3 [0] rfl rfl rfl rfl (fun g_ => ⟨rfl, trivial⟩) ?_
 refine WL.run tbk 1 hs3 [] rfl trivial ?_
 refine WL.nil ?_
 refine WC.ret ?_
 refine retV1 rfl (resV.tmp rfl) ?_
 refine ⟨congrArg Ending.returned ?_, hs3.nil⟩
 simp [attrOk, within, Bool.and_assoc]
theorem c_impl_AttrNum (a_Fg : Int) (a_Bg : Int) (a_Bold : Bool) (a_Under : Bool) (a_Turn : Bool) (w : World) :
    Calls Try.prog 175 #[.agg #[i64 a_Fg, i64 a_Bg, .bool a_Bold, .bool a_Under, .bool a_Turn]] w fun e w' => e = .returned (.int .i64 (attrNum ⟨a_Fg, a_Bg, a_Bold, a_Under, a_Turn⟩)) ∧ St w [] [] w' := by
 refine enter (vs := [.agg #[i64 a_Fg, i64 a_Bg, .bool a_Bold, .bool a_Under, .bool a_Turn]]) 36 Try.func175 rfl Try.ntmps175 rfl rfl ?_
 have hs1 := St.init w
 refine WC.sr ?_
 refine WL.bx hs1 rfl (fun b2 _ hs3 => ?_)
 refine WL.run tbk 1 hs3 [] rfl trivial ?_
 refine WL.nil ?_
 refine WC.seq (fun K4 hK4 => ?_)
 refine WC.sr ?_
 refine WL.run tbk 1 hs3 [0] rfl ⟨rfl, trivial⟩ ?_
 refine WL.call rfl rfl rfl (Run.call Try.call104 rfl rfl rfl) (c_impl_AttrOk _ _ _ _ _ _) ?_
 rintro _ whs5 ⟨rfl, hs5⟩
 replace hs5 := hs3.call0 hs5
 refine ⟨_, rfl, ?_⟩
 refine WL.run tbk 1 hs5 [] rfl trivial ?_
 refine WL.nil ?_
 refine WC.cond rfl (fun h6 => ?_) (fun h6 => ?_)
 ·have qh6 := h6
  try simp only [bf, within_iff, within_not] at qh6
  have hok : attrOk a_Fg a_Bg = false := by simpa using qh6
  refine WC.rr tbk hs5 [] rfl trivial ?_
  refine WC.ret ?_
  refine tkR ?_
  clear hK4
  refine retV1 rfl (resV.tmp rfl) ?_
  refine ⟨congrArg Ending.returned ?_, hs5.nil⟩
  simp [attrNum, hok]
 ·have qh6 := h6
  try simp only [bf, within_iff, within_not] at qh6
  have hok : attrOk a_Fg a_Bg = true := by simpa using qh6
  have hok2 := hok
  simp [attrOk, within] at hok2
  refine WC.skip ?_
  refine hK4 _ _ ?_
  refine WC.rr tbk hs5 [0, 0] rfl ⟨by first | omega | (show (0 : Int) ≤ 1 * 2 ^ i; omega) | (show (1 * 2 ^ i : Int) ≤ _; omega), by first | omega | (show (0 : Int) ≤ 1 * 2 ^ i; omega) | (show (1 * 2 ^ i : Int) ≤ _; omega), rfl, by first | omega | (show (0 : Int) ≤ 1 * 2 ^ i; omega) | (show (1 * 2 ^ i : Int) ≤ _; omega), rfl, trivial⟩ ?_
  refine WC.seq (fun K7 hK7 => ?_)
  refine WC.sr ?_
  refine WL.run tbk 6 hs5 [0, 0, 0] rfl ⟨rfl, rfl, rfl, trivial⟩ ?_
  refine WL.buildF (F := encT) hs5 ([a_Bold, a_Under, a_Turn]) Try.runUnderlying148 Try.sizeOf4 Try.zeroValue4 rfl rfl rfl rfl rfl rfl rfl rfl rfl rfl rfl rfl (fun A11 c12 L8 whs9 hs9 ho10 => ?_)
  replace hs9 := St.back [_] hs9
  refine WL.run tbk 2 hs9 [] rfl trivial ?_
  refine WL.nil ?_
  refine WC.block ?_
  refine WC.loopS [(2, _), (8, _), (22, _), (23, _)] ⟨rfl, rfl, rfl, rfl, trivial⟩ hs9 (fun k_ f w' => ∃ (i : Nat) (q : Int), k_ = 3 - i ∧ (i ≤ 3) ∧ (q = 72 * a_Bg + 8 * a_Fg + attrBits ⟨a_Fg, a_Bg, a_Bold, a_Under, a_Turn⟩ i) ∧ Sub [(24, .int .i64 i), (3, .int .i64 q)] f) ((fun (i : Nat) (q : Int) => 3 - i) (0) (72 * a_Bg + 8 * a_Fg)) ?_ ?_
  ·refine ⟨0, 72 * a_Bg + 8 * a_Fg, rfl, ?_, ?_, ⟨rfl, rfl, trivial⟩⟩
   · exact Nat.zero_le _
   · simp [attrBits]
  ·clear hs9
   rintro _ f w ⟨i, q, rfl, p0, p1, hG⟩ hF hs13
   refine WC.sub _ (hG.app hF) ?_
   clear hG hF
   have hbit : 0 ≤ attrBits ⟨a_Fg, a_Bg, a_Bold, a_Under, a_Turn⟩ i ∧ attrBits ⟨a_Fg, a_Bg, a_Bold, a_Under, a_Turn⟩ i ≤ 7 := by unfold attrBits; (repeat' split) <;> omega
   refine WC.rr tbk hs13 [] rfl trivial ?_
   refine WC.seq (fun K14 hK14 => ?_)
   refine WC.cD rfl (fun qh15 => ?_) (fun qh15 => ?_)
   ·simp only [List.length_cons, List.length_nil] at qh15
    have hp2 : (1 * 2 ^ i : Int) = 1 ∨ (1 * 2 ^ i : Int) = 2 ∨ (1 * 2 ^ i : Int) = 4 := by
      rcases i with _ | _ | _ | i
      · exact Or.inl rfl
      · exact Or.inr (Or.inl rfl)
      · exact Or.inr (Or.inr rfl)
      · omega
    refine WC.skip ?_
    refine hK14 _ _ ?_
    refine WC.seq (fun K16 hK16 => ?_)
    refine WC.block ?_
    refine WC.sr ?_
    refine WL.run tbk 1 hs13 [] rfl trivial ?_
    refine WL.val rfl rfl rfl (Run.idxN Try.runUnderlying148 Try.sizeOf4 rfl rfl rfl ?_ ?_ ?_) ?_
    · exact SlF.some_ (SlF.ofOwn ho10 (fun p_ hp_ => (hs13.own p_ (List.mem_append_right [_] (List.mem_append_left _ hp_))).1))
    · simp only [List.length_cons, List.length_nil] at *; omega
    · simp only [List.length_cons, List.length_nil] at *; omega
    refine WL.val rfl rfl rfl (Run.load Try.isAgg4 rfl rfl (SlF.one1 (SlF.ofOwn ho10 (fun p_ hp_ => (hs13.own p_ (List.mem_append_right [_] (List.mem_append_left _ hp_))).1)) ?_ rfl)) ?_
    · simp only [List.length_cons, List.length_nil] at *; omega
    refine WL.run tbk 2 hs13 [] rfl trivial ?_
    refine WL.nil ?_
    refine WC.rr tbk hs13 [] rfl trivial ?_
    refine WC.cond rfl (fun h17 => ?_) (fun h17 => ?_)
    ·have qh17 := h17
     try simp only [bf, within_iff, within_not] at qh17
     refine WC.region ?_
     refine WL.run tbk 2 hs13 [] rfl trivial ?_
     refine WL.val rfl rfl rfl (Run.shl rfl rfl rfl ?_ ?_ ?_) ?_
     · first | omega | (show (0 : Int) ≤ 1 * 2 ^ i; omega) | (show (1 * 2 ^ i : Int) ≤ _; omega)
     · first | omega | (show (0 : Int) ≤ 1 * 2 ^ i; omega) | (show (1 * 2 ^ i : Int) ≤ _; omega)
     · show In64 (1 * 2 ^ i); constructor <;> omega
     refine WL.val rfl rfl rfl (Run.or rfl rfl rfl ?_ ?_ ?_ ?_) ?_
     · first | omega | (show (0 : Int) ≤ 1 * 2 ^ i; omega) | (show (1 * 2 ^ i : Int) ≤ _; omega)
     · first | omega | (show (0 : Int) ≤ 1 * 2 ^ i; omega) | (show (1 * 2 ^ i : Int) ≤ _; omega)
     · first | omega | (show (0 : Int) ≤ 1 * 2 ^ i; omega) | (show (1 * 2 ^ i : Int) ≤ _; omega)
     · first | omega | (show (0 : Int) ≤ 1 * 2 ^ i; omega) | (show (1 * 2 ^ i : Int) ≤ _; omega)
     refine WL.run tbk 1 hs13 [] rfl trivial ?_
     refine WL.nil ?_
     refine hK16 _ _ ?_
     refine WC.region ?_
     refine WL.run tbk 2 hs13 [] rfl ⟨by first | omega | (show (0 : Int) ≤ 1 * 2 ^ i; omega) | (show (1 * 2 ^ i : Int) ≤ _; omega), trivial⟩ ?_
     refine WL.nil ?_
     refine tkN ?_
     refine ⟨⟨rfl, rfl, rfl, rfl, trivial⟩, hs13, _, ?_, i + 1, _, rfl, ?_, ?_, ⟨rfl, rfl, trivial⟩⟩
     · omega
     · omega
     · first | exact attrBits_set hok2.1.1 hok2.2.1 p1 (by omega) qh17 | (rw [attrBits_skip (i := i) (by omega) qh17]; exact p1)
    ·have qh17 := h17
     try simp only [bf, within_iff, within_not] at qh17
     refine WC.skip ?_
     refine hK16 _ _ ?_
     refine WC.region ?_
     refine WL.run tbk 2 hs13 [] rfl ⟨by first | omega | (show (0 : Int) ≤ 1 * 2 ^ i; omega) | (show (1 * 2 ^ i : Int) ≤ _; omega), trivial⟩ ?_
     refine WL.nil ?_
     refine tkN ?_
     refine ⟨⟨rfl, rfl, rfl, rfl, trivial⟩, hs13, _, ?_, i + 1, _, rfl, ?_, ?_, ⟨rfl, rfl, trivial⟩⟩
     · omega
     · omega
     · first | exact attrBits_set hok2.1.1 hok2.2.1 p1 (by omega) qh17 | (rw [attrBits_skip (i := i) (by omega) qh17]; exact p1)
   ·refine WC.exit ?_
    refine hK7 _ _ ?_
    refine WC.rr tbk hs13 [] rfl trivial ?_
    refine WC.ret ?_
    refine retV1 rfl (resV.tmp rfl) ?_
    refine ⟨congrArg Ending.returned ?_, hs13.nil⟩
    rw [attrNum_bits hok]; simp only [List.length_cons, List.length_nil] at *; rw [p1, show i = 3 from by omega]
theorem c_spec_AttrNum (a_Fg : Int) (a_Bg : Int) (a_Bold : Bool) (a_Under : Bool) (a_Turn : Bool) (w : World) :
    Calls Try.prog 125 #[.agg #[i64 a_Fg, i64 a_Bg, .bool a_Bold, .bool a_Under, .bool a_Turn]] w fun e w' => e = .returned (.int .i64 (attrNum ⟨a_Fg, a_Bg, a_Bold, a_Under, a_Turn⟩)) ∧ St w [] [] w' := by
 refine enter (vs := [.agg #[i64 a_Fg, i64 a_Bg, .bool a_Bold, .bool a_Under, .bool a_Turn]]) 27 Try.func125 rfl Try.ntmps125 rfl rfl ?_
 have hs1 := St.init w
 refine WC.sr ?_
 refine WL.bx hs1 rfl (fun b2 _ hs3 => ?_)
 refine WL.run tbk 1 hs3 [] rfl trivial ?_
 refine WL.nil ?_
 refine WC.seq (fun K4 hK4 => ?_)
 refine WC.sr ?_
 refine WL.run tbk 1 hs3 [0] rfl ⟨rfl, trivial⟩ ?_
 refine WL.call rfl rfl rfl (Run.call Try.call142 rfl rfl rfl) (c_spec_AttrOk _ _ _ _ _ _) ?_
 rintro _ whs5 ⟨rfl, hs5⟩
 replace hs5 := hs3.call0 hs5
 refine ⟨_, rfl, ?_⟩
 refine WL.run tbk 1 hs5 [] rfl trivial ?_
 refine WL.nil ?_
 refine WC.cond rfl (fun h6 => ?_) (fun h6 => ?_)
 ·have qh6 := h6
  try simp only [bf, within_iff, within_not] at qh6
  have hok : attrOk a_Fg a_Bg = false := by simpa using qh6
  refine WC.rr tbk hs5 [] rfl trivial ?_
  refine WC.ret ?_
  refine tkR ?_
  clear hK4
  refine retV1 rfl (resV.tmp rfl) ?_
  refine ⟨congrArg Ending.returned ?_, hs5.nil⟩
  simp [attrNum, hok]
 ·have qh6 := h6
  try simp only [bf, within_iff, within_not] at qh6
  have hok : attrOk a_Fg a_Bg = true := by simpa using qh6
  have hok2 := hok
  simp [attrOk, within] at hok2
  refine WC.skip ?_
  refine hK4 _ _ ?_
  refine WC.rr tbk hs5 [0, 0] rfl ⟨by omega, by omega, rfl, by omega, rfl, trivial⟩ ?_
  refine WC.seq (fun K7 hK7 => ?_)
  refine WC.rr tbk hs5 [0] rfl ⟨rfl, trivial⟩ ?_
  refine WC.cond rfl (fun h8 => ?_) (fun h8 => ?_)
  ·have qh8 := h8
   try simp only [bf, within_iff, within_not] at qh8
   refine WC.region ?_
   refine WL.run tbk 3 hs5 [] rfl ⟨by omega, trivial⟩ ?_
   refine WL.nil ?_
   refine hK7 _ _ ?_
   refine WC.seq (fun K9 hK9 => ?_)
   refine WC.rr tbk hs5 [0] rfl ⟨rfl, trivial⟩ ?_
   refine WC.cond rfl (fun h10 => ?_) (fun h10 => ?_)
   ·have qh10 := h10
    try simp only [bf, within_iff, within_not] at qh10
    refine WC.region ?_
    refine WL.run tbk 3 hs5 [] rfl ⟨by omega, trivial⟩ ?_
    refine WL.nil ?_
    refine hK9 _ _ ?_
    refine WC.seq (fun K11 hK11 => ?_)
    refine WC.rr tbk hs5 [0] rfl ⟨rfl, trivial⟩ ?_
    refine WC.cond rfl (fun h12 => ?_) (fun h12 => ?_)
    ·have qh12 := h12
     try simp only [bf, within_iff, within_not] at qh12
     refine WC.region ?_
     refine WL.run tbk 3 hs5 [] rfl ⟨by omega, trivial⟩ ?_
     refine WL.nil ?_
     refine hK11 _ _ ?_
     refine WC.rr tbk hs5 [] rfl trivial ?_
     refine WC.ret ?_
     refine retV1 rfl (resV.tmp rfl) ?_
     refine ⟨congrArg Ending.returned ?_, hs5.nil⟩
     simp_all [attrNum]; omega
    ·have qh12 := h12
     try simp only [bf, within_iff, within_not] at qh12
     refine WC.skip ?_
     refine hK11 _ _ ?_
     refine WC.rr tbk hs5 [] rfl trivial ?_
     refine WC.ret ?_
     refine retV1 rfl (resV.tmp rfl) ?_
     refine ⟨congrArg Ending.returned ?_, hs5.nil⟩
     simp_all [attrNum]; omega
   ·have qh10 := h10
    try simp only [bf, within_iff, within_not] at qh10
    refine WC.skip ?_
    refine hK9 _ _ ?_
    refine WC.seq (fun K13 hK13 => ?_)
    refine WC.rr tbk hs5 [0] rfl ⟨rfl, trivial⟩ ?_
    refine WC.cond rfl (fun h14 => ?_) (fun h14 => ?_)
    ·have qh14 := h14
     try simp only [bf, within_iff, within_not] at qh14
     refine WC.region ?_
     refine WL.run tbk 3 hs5 [] rfl ⟨by omega, trivial⟩ ?_
     refine WL.nil ?_
     refine hK13 _ _ ?_
     refine WC.rr tbk hs5 [] rfl trivial ?_
     refine WC.ret ?_
     refine retV1 rfl (resV.tmp rfl) ?_
     refine ⟨congrArg Ending.returned ?_, hs5.nil⟩
     simp_all [attrNum]; omega
    ·have qh14 := h14
     try simp only [bf, within_iff, within_not] at qh14
     refine WC.skip ?_
     refine hK13 _ _ ?_
     refine WC.rr tbk hs5 [] rfl trivial ?_
     refine WC.ret ?_
     refine retV1 rfl (resV.tmp rfl) ?_
     refine ⟨congrArg Ending.returned ?_, hs5.nil⟩
     simp_all [attrNum]; omega
  ·have qh8 := h8
   try simp only [bf, within_iff, within_not] at qh8
   refine WC.skip ?_
   refine hK7 _ _ ?_
   refine WC.seq (fun K15 hK15 => ?_)
   refine WC.rr tbk hs5 [0] rfl ⟨rfl, trivial⟩ ?_
   refine WC.cond rfl (fun h16 => ?_) (fun h16 => ?_)
   ·have qh16 := h16
    try simp only [bf, within_iff, within_not] at qh16
    refine WC.region ?_
    refine WL.run tbk 3 hs5 [] rfl ⟨by omega, trivial⟩ ?_
    refine WL.nil ?_
    refine hK15 _ _ ?_
    refine WC.seq (fun K17 hK17 => ?_)
    refine WC.rr tbk hs5 [0] rfl ⟨rfl, trivial⟩ ?_
    refine WC.cond rfl (fun h18 => ?_) (fun h18 => ?_)
    ·have qh18 := h18
     try simp only [bf, within_iff, within_not] at qh18
     refine WC.region ?_
     refine WL.run tbk 3 hs5 [] rfl ⟨by omega, trivial⟩ ?_
     refine WL.nil ?_
     refine hK17 _ _ ?_
     refine WC.rr tbk hs5 [] rfl trivial ?_
     refine WC.ret ?_
     refine retV1 rfl (resV.tmp rfl) ?_
     refine ⟨congrArg Ending.returned ?_, hs5.nil⟩
     simp_all [attrNum]; omega
    ·have qh18 := h18
     try simp only [bf, within_iff, within_not] at qh18
     refine WC.skip ?_
     refine hK17 _ _ ?_
     refine WC.rr tbk hs5 [] rfl trivial ?_
     refine WC.ret ?_
     refine retV1 rfl (resV.tmp rfl) ?_
     refine ⟨congrArg Ending.returned ?_, hs5.nil⟩
     simp_all [attrNum]; omega
   ·have qh16 := h16
    try simp only [bf, within_iff, within_not] at qh16
    refine WC.skip ?_
    refine hK15 _ _ ?_
    refine WC.seq (fun K19 hK19 => ?_)
    refine WC.rr tbk hs5 [0] rfl ⟨rfl, trivial⟩ ?_
    refine WC.cond rfl (fun h20 => ?_) (fun h20 => ?_)
    ·have qh20 := h20
     try simp only [bf, within_iff, within_not] at qh20
     refine WC.region ?_
     refine WL.run tbk 3 hs5 [] rfl ⟨by omega, trivial⟩ ?_
     refine WL.nil ?_
     refine hK19 _ _ ?_
     refine WC.rr tbk hs5 [] rfl trivial ?_
     refine WC.ret ?_
     refine retV1 rfl (resV.tmp rfl) ?_
     refine ⟨congrArg Ending.returned ?_, hs5.nil⟩
     simp_all [attrNum]; omega
    ·have qh20 := h20
     try simp only [bf, within_iff, within_not] at qh20
     refine WC.skip ?_
     refine hK19 _ _ ?_
     refine WC.rr tbk hs5 [] rfl trivial ?_
     refine WC.ret ?_
     refine retV1 rfl (resV.tmp rfl) ?_
     refine ⟨congrArg Ending.returned ?_, hs5.nil⟩
     simp_all [attrNum]; omega
theorem c_impl_CellOk (c_R : Int) (c_A_Fg : Int) (c_A_Bg : Int) (c_A_Bold : Bool) (c_A_Under : Bool) (c_A_Turn : Bool) (w : World) :
    Calls Try.prog 199 #[.agg #[i64 c_R, i64 c_A_Fg, i64 c_A_Bg, .bool c_A_Bold, .bool c_A_Under, .bool c_A_Turn]] w fun e w' => e = .returned (.bool (cellOk ⟨c_R, ⟨c_A_Fg, c_A_Bg, c_A_Bold, c_A_Under, c_A_Turn⟩⟩)) ∧ St w [] [] w' := by
 refine enter (vs := [.agg #[i64 c_R, i64 c_A_Fg, i64 c_A_Bg, .bool c_A_Bold, .bool c_A_Under, .bool c_A_Turn]]) 11 Try.func199 rfl Try.ntmps199 rfl rfl ?_
 have hs1 := St.init w
 refine WC.sr ?_
 refine WL.bx hs1 rfl (fun b2 _ hs3 => ?_)
 refine WL.run tbk 1 hs3 [] rfl trivial ?_
 refine WL.nil ?_
 refine WC.sr ?_
 refine WL.run tbk 2 hs3 [0] rfl ⟨rfl, trivial⟩ ?_
 refine WL.call rfl rfl rfl (Run.call Try.call119 rfl rfl rfl) (c_impl_Shows _ _) ?_
 rintro _ whs4 ⟨rfl, hs4⟩
 replace hs4 := hs3.call0 hs4
 refine ⟨_, rfl, ?_⟩
 refine WL.run tbk 1 hs4 [] rfl trivial ?_
 apply WL.gA 3 Acts.nil hs4 rfl
 ·intro g5 J6
  have qg5 := g5
  try simp only [bf, within_iff, within_not] at qg5
  refine WL.runA tbk 2 (Acts.nil.cons (j := 3) rfl g5) hs4 [0] rfl ⟨rfl, trivial⟩ ?_
  refine WL.call (wantT rfl g5) rfl rfl (Run.call Try.call104 rfl rfl rfl) (c_impl_AttrOk _ _ _ _ _ _) ?_
  rintro _ whs7 ⟨rfl, hs7⟩
  replace hs7 := hs4.call0 hs7
  refine ⟨_, rfl, ?_⟩
  exact WL.eA 3 Acts.nil J6 hs7 g5 rfl rfl
 ·intro _ hs8
  refine WL.run tbk 1 hs8 [] rfl trivial ?_
  refine WL.nil ?_
  refine WC.ret ?_
  refine retV1 rfl (resV.tmp rfl) ?_
  refine ⟨congrArg Ending.returned ?_, hs8.nil⟩
  rfl
theorem c_spec_CellOk (c_R : Int) (c_A_Fg : Int) (c_A_Bg : Int) (c_A_Bold : Bool) (c_A_Under : Bool) (c_A_Turn : Bool) (w : World) :
    Calls Try.prog 171 #[.agg #[i64 c_R, i64 c_A_Fg, i64 c_A_Bg, .bool c_A_Bold, .bool c_A_Under, .bool c_A_Turn]] w fun e w' => e = .returned (.bool (cellOk ⟨c_R, ⟨c_A_Fg, c_A_Bg, c_A_Bold, c_A_Under, c_A_Turn⟩⟩)) ∧ St w [] [] w' := by
 refine enter (vs := [.agg #[i64 c_R, i64 c_A_Fg, i64 c_A_Bg, .bool c_A_Bold, .bool c_A_Under, .bool c_A_Turn]]) 11 Try.func171 rfl Try.ntmps171 rfl rfl ?_
 have hs1 := St.init w
 refine WC.sr ?_
 refine WL.bx hs1 rfl (fun b2 _ hs3 => ?_)
 refine WL.run tbk 1 hs3 [] rfl trivial ?_
 refine WL.nil ?_
 refine WC.sr ?_
 refine WL.run tbk 2 hs3 [0] rfl ⟨rfl, trivial⟩ ?_
 refine WL.call rfl rfl rfl (Run.call Try.call192 rfl rfl rfl) (c_spec_Shows _ _) ?_
 rintro _ whs4 ⟨rfl, hs4⟩
 replace hs4 := hs3.call0 hs4
 refine ⟨_, rfl, ?_⟩
 refine WL.run tbk 1 hs4 [] rfl trivial ?_
 apply WL.gA 3 Acts.nil hs4 rfl
 ·intro g5 J6
  have qg5 := g5
  try simp only [bf, within_iff, within_not] at qg5
  refine WL.runA tbk 2 (Acts.nil.cons (j := 3) rfl g5) hs4 [0] rfl ⟨rfl, trivial⟩ ?_
  refine WL.call (wantT rfl g5) rfl rfl (Run.call Try.call142 rfl rfl rfl) (c_spec_AttrOk _ _ _ _ _ _) ?_
  rintro _ whs7 ⟨rfl, hs7⟩
  replace hs7 := hs4.call0 hs7
  refine ⟨_, rfl, ?_⟩
  exact WL.eA 3 Acts.nil J6 hs7 g5 rfl rfl
 ·intro _ hs8
  refine WL.run tbk 1 hs8 [] rfl trivial ?_
  refine WL.nil ?_
  refine WC.ret ?_
  refine retV1 rfl (resV.tmp rfl) ?_
  refine ⟨congrArg Ending.returned ?_, hs8.nil⟩
  rfl
theorem c_impl_areCells_1 (c_R : Int) (c_A_Fg : Int) (c_A_Bg : Int) (c_A_Bold : Bool) (c_A_Under : Bool) (c_A_Turn : Bool) (w : World) :
    Calls Try.prog 198 #[.agg #[i64 c_R, i64 c_A_Fg, i64 c_A_Bg, .bool c_A_Bold, .bool c_A_Under, .bool c_A_Turn]] w fun e w' => e = .returned (.bool (!cellOk ⟨c_R, ⟨c_A_Fg, c_A_Bg, c_A_Bold, c_A_Under, c_A_Turn⟩⟩)) ∧ St w [] [] w' := by
 refine enter (vs := [.agg #[i64 c_R, i64 c_A_Fg, i64 c_A_Bg, .bool c_A_Bold, .bool c_A_Under, .bool c_A_Turn]]) 6 Try.func198 rfl Try.ntmps198 rfl rfl ?_
 have hs1 := St.init w
 refine WC.sr ?_
 refine WL.bx hs1 rfl (fun b2 _ hs3 => ?_)
 refine WL.run tbk 1 hs3 [] rfl trivial ?_
 refine WL.nil ?_
 refine WC.sr ?_
 refine WL.run tbk 1 hs3 [0] rfl ⟨rfl, trivial⟩ ?_
 refine WL.call rfl rfl rfl (Run.call Try.call199 rfl rfl rfl) (c_impl_CellOk _ _ _ _ _ _ _) ?_
 rintro _ whs4 ⟨rfl, hs4⟩
 replace hs4 := hs3.call0 hs4
 refine ⟨_, rfl, ?_⟩
 refine WL.run tbk 2 hs4 [] rfl trivial ?_
 refine WL.nil ?_
 refine WC.ret ?_
 refine retV1 rfl (resV.tmp rfl) ?_
 refine ⟨congrArg Ending.returned ?_, hs4.nil⟩
 rfl
theorem c_slices_IndexFunc_impl_Cell_impl_Cell (A_s : Option Addr) (n_s c_s : Nat) (s : List CellD) (w : World) (f_s : SlF encCell w A_s n_s s) (hn : n_s ≤ 1099511627776) :
    Calls Try.prog 222 #[.slice A_s n_s c_s, .func (.func 198) #[] #[]] w fun e w' => e = .returned (.int .i64 (findI (fun c => !cellOk c) s)) ∧ St w [] [] w' := by
 refine enter (vs := [.slice A_s n_s c_s, .func (.func 198) #[] #[]]) 19 Try.func222 rfl Try.ntmps222 rfl rfl ?_
 have hs1 := St.init w
 refine WC.rr tbk hs1 [] rfl trivial ?_
 refine WC.seq (fun K2 hK2 => ?_)
 refine WC.rr tbk hs1 [] rfl trivial ?_
 refine WC.block ?_
 refine WC.loopS [(0, _), (1, _), (7, _)] ⟨rfl, rfl, rfl, trivial⟩ hs1 (fun k_ f w' => ∃ (i : Nat), k_ = n_s - i ∧ (i ≤ n_s) ∧ (∀ j, j < i → (fun c => !cellOk c) (gat encCell s j) = false) ∧ Sub [(8, .int .i64 i)] f) ((fun (i : Nat) => n_s - i) (0)) ?_ ?_
 ·refine ⟨0, rfl, ?_, ?_, ⟨rfl, trivial⟩⟩
  · exact Nat.zero_le _
  · exact fun j hj => absurd hj (by omega)
 ·clear hs1
  rintro _ f w ⟨i, rfl, p0, p1, hG⟩ hF hs3
  refine WC.sub _ (hG.app hF) ?_
  clear hG hF
  refine WC.rr tbk hs3 [] rfl trivial ?_
  refine WC.seq (fun K4 hK4 => ?_)
  refine WC.cond rfl (fun h5 => ?_) (fun h5 => ?_)
  ·have qh5 := h5
   try simp only [decide_eq_true_eq, decide_eq_false_iff_not] at qh5
   refine WC.skip ?_
   refine hK4 _ _ ?_
   refine WC.seq (fun K6 hK6 => ?_)
   refine WC.block ?_
   refine WC.rr tbk hs3 [] rfl trivial ?_
   refine WC.sr ?_
   refine WL.run tbk 3 hs3 [] rfl trivial ?_
   refine WL.val rfl rfl rfl (Run.idxN Try.runUnderlying26 Try.sizeOf100 rfl rfl rfl ?_ ?_ ?_) ?_
   · exact SlF.some_ (SlF.st0 f_s hs3)
   · omega
   · omega
   refine WL.val rfl rfl rfl (Run.loadA Try.isAgg100 Try.sizeOf100 rfl rfl (SlF.whole (SlF.st0 f_s hs3) ?_)) ?_
   · omega
   refine WL.call rfl rfl rfl (Run.call Try.call198 rfl rfl rfl) (c_impl_areCells_1 _ _ _ _ _ _ _) ?_
   rintro _ whs7 ⟨rfl, hs7⟩
   replace hs7 := hs3.call0 hs7
   refine ⟨_, rfl, ?_⟩
   refine WL.nil ?_
   refine WC.cond rfl (fun h8 => ?_) (fun h8 => ?_)
   ·have qh8 := h8
    try simp only [decide_eq_true_eq, decide_eq_false_iff_not] at qh8
    refine WC.rr tbk hs7 [] rfl trivial ?_
    refine WC.ret ?_
    refine ibR (tkR (tkR (ibR (tkR ?_))))
    clear hK6 hK2
    refine retV1 rfl (resV.tmp rfl) ?_
    refine ⟨congrArg Ending.returned ?_, hs7.nil⟩
    rw [findI_some (F := encCell) (by rw [f_s.len]; omega) p1 h8]
   ·have qh8 := h8
    try simp only [decide_eq_true_eq, decide_eq_false_iff_not] at qh8
    refine WC.skip ?_
    refine hK6 _ _ ?_
    refine WC.region ?_
    refine WL.run tbk 2 hs7 [] rfl ⟨by omega, trivial⟩ ?_
    refine WL.nil ?_
    refine tkN ?_
    refine ⟨⟨rfl, rfl, rfl, trivial⟩, hs7, _, ?_, i + 1, rfl, ?_, ?_, ⟨rfl, trivial⟩⟩
    · omega
    · omega
    · intro j hj; rcases Nat.lt_or_ge j i with h_ | h_
      · exact p1 j h_
      · obtain rfl : j = i := by omega
        exact h8
  ·have qh5 := h5
   try simp only [decide_eq_true_eq, decide_eq_false_iff_not] at qh5
   refine WC.exit ?_
   refine hK2 _ _ ?_
   refine WC.rr tbk hs3 [] rfl trivial ?_
   refine WC.ret ?_
   refine retV1 rfl (resV.tmp rfl) ?_
   refine ⟨congrArg Ending.returned ?_, hs3.nil⟩
   rw [findI_none (F := encCell) (fun j hj => p1 j (by rw [f_s.len] at hj; omega))]
theorem c_slices_ContainsFunc_impl_Cell_impl_Cell (A_s : Option Addr) (n_s c_s : Nat) (s : List CellD) (w : World) (f_s : SlF encCell w A_s n_s s) (hn : n_s ≤ 1099511627776) :
    Calls Try.prog 197 #[.slice A_s n_s c_s, .func (.func 198) #[] #[]] w fun e w' => e = .returned (.bool (decide (0 ≤ findI (fun c => !cellOk c) s))) ∧ St w [] [] w' := by
 refine enter (vs := [.slice A_s n_s c_s, .func (.func 198) #[] #[]]) 9 Try.func197 rfl Try.ntmps197 rfl rfl ?_
 have hs1 := St.init w
 refine WC.rr tbk hs1 [] rfl trivial ?_
 refine WC.sr ?_
 refine WL.run tbk 2 hs1 [] rfl trivial ?_
 refine WL.call rfl rfl rfl (Run.call Try.call222 rfl rfl rfl) (c_slices_IndexFunc_impl_Cell_impl_Cell _ _ _ _ _ (SlF.st0 f_s hs1) ?_) ?_
 · first | assumption | rfl | omega
 rintro _ whs2 ⟨rfl, hs2⟩
 replace hs2 := hs1.call0 hs2
 refine ⟨_, rfl, ?_⟩
 refine WL.run tbk 2 hs2 [] rfl trivial ?_
 refine WL.nil ?_
 refine WC.ret ?_
 refine retV1 rfl (resV.tmp rfl) ?_
 refine ⟨congrArg Ending.returned ?_, hs2.nil⟩
 rfl
theorem c_impl_areCells (A_l : Option Addr) (n_l c_l : Nat) (l : List CellD) (w : World) (f_l : SlF encCell w A_l n_l l) (hn : n_l ≤ 1099511627776) :
    Calls Try.prog 160 #[.slice A_l n_l c_l] w fun e w' => e = .returned (.bool (cellsOk l)) ∧ St w [] [] w' := by
 refine enter (vs := [.slice A_l n_l c_l]) 6 Try.func160 rfl Try.ntmps160 rfl rfl ?_
 have hs1 := St.init w
 refine WC.rr tbk hs1 [] rfl trivial ?_
 refine WC.sr ?_
 refine WL.run tbk 1 hs1 [] rfl trivial ?_
 refine WL.call rfl rfl rfl (Run.call Try.call197 rfl rfl rfl) (c_slices_ContainsFunc_impl_Cell_impl_Cell _ _ _ _ _ (SlF.st0 f_l hs1) ?_) ?_
 · first | assumption | rfl | omega
 rintro _ whs2 ⟨rfl, hs2⟩
 replace hs2 := hs1.call0 hs2
 refine ⟨_, rfl, ?_⟩
 refine WL.run tbk 2 hs2 [] rfl trivial ?_
 refine WL.nil ?_
 refine WC.ret ?_
 refine retV1 rfl (resV.tmp rfl) ?_
 refine ⟨congrArg Ending.returned ?_, hs2.nil⟩
 rw [cellsOk_find]
end Go.Proofs.Ytlmcekfdlgkffaa
