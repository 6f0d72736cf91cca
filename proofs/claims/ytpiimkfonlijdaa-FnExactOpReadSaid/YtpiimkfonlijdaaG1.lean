/- Walks of Go functions, printed by a program (wip/gen). -/
import Derived.Test.YtpiimkfonlijdaaM1
import Derived.Test.YtpiimkfonlijdaaProg
namespace Go.Proofs.Ytpiimkfonlijdaa
open Go Go.RowKit
set_option linter.unusedVariables false
set_option linter.unusedSimpArgs false
theorem mixed : Try.prog.follows .mixedOrders = true := by kernel_rfl
theorem ext_idx (s : ByteArray) (c : Int) (w : World) : (callFunc 152 #[.string s, .int .u8 c]).run Try.prog w = .ok (.value (.int .i64 (firstIdx s c.toNat.toUInt8))) w := by
  rw [run_callFunc_extern Try.func152 (by kernel_rfl) (by kernel_rfl) (by kernel_rfl) (e := Extern.BytealgIndexByte.indexByte) (by kernel_rfl), run_indexByte_string]
  rfl
theorem c_impl_within (n lo hi : Int) (w : World) :
    Calls Try.prog 51 #[i64 n, i64 lo, i64 hi] w fun e w' => e = .returned (.bool (within n lo hi)) ∧ St w [] [] w' := by
  refine enter (vs := [i64 n, i64 lo, i64 hi]) 15 Try.func51 rfl Try.ntmps51 rfl rfl ?_
  have hs1 := St.init w
  refine WC.seq (fun K2 hK2 => ?_)
  refine WC.region ?_
  refine WL.val rfl rfl rfl (Run.assign rfl rfl) ?_
  refine WL.nil ?_
  refine tkN ?_
  refine hK2 _ _ ?_
  clear hK2
  refine WC.seq (fun K3 hK3 => ?_)
  refine WC.region ?_
  refine WL.val rfl rfl rfl (Run.move rfl rfl) ?_
  refine WL.val rfl rfl rfl (Run.move rfl rfl) ?_
  refine WL.val rfl rfl rfl (Run.geq rfl rfl rfl) ?_
  refine WL.val rfl rfl rfl (Run.move rfl rfl) ?_
  apply WL.meetAnd 4 10 14 [(0, _), (1, _), (2, _), (6, _)] rfl hs1
  · intro g4 J5
    refine WL.val (wantT rfl g4) rfl rfl (Run.move rfl rfl) ?_
    refine WL.val (wantT rfl g4) rfl rfl (Run.move rfl rfl) ?_
    refine WL.val (wantT rfl g4) rfl rfl (Run.leq rfl rfl rfl) ?_
    refine WL.val rfl rfl rfl (Run.pickT rfl rfl g4 rfl) ?_
    exact WL.fin J5 hs1 rfl (andT g4) ⟨rfl, rfl, rfl, rfl, trivial⟩
  · intro g4 J5
    refine WL.skip (wantNT rfl g4) rfl rfl ?_
    refine WL.skip (wantNT rfl g4) rfl rfl ?_
    refine WL.skip (wantNT rfl g4) rfl rfl ?_
    refine WL.val rfl rfl rfl (Run.pickF rfl rfl g4 rfl) ?_
    exact WL.fin J5 hs1 rfl (andF g4) ⟨rfl, rfl, rfl, rfl, trivial⟩
  · intro whs6 hs6
    refine WL.val rfl rfl rfl (Run.assign rfl rfl) ?_
    refine WL.nil ?_
    refine tkN ?_
    refine hK3 _ _ ?_
    clear hK3
    refine WC.ret ?_
    refine retV1 rfl (resV.tmp rfl) ?_
    refine ⟨congrArg Ending.returned ?_, hs6.nil⟩
    rfl
theorem c_impl_Shows (n : Int) (w : World) :
    Calls Try.prog 103 #[i64 n] w fun e w' => e = .returned (.bool (shows n)) ∧ St w [] [] w' := by
  refine enter (vs := [i64 n]) 14 Try.func103 rfl Try.ntmps103 rfl rfl ?_
  have hs1 := St.init w
  refine WC.seq (fun K2 hK2 => ?_)
  refine WC.region ?_
  refine WL.val rfl rfl rfl (Run.assign rfl rfl) ?_
  refine WL.nil ?_
  refine tkN ?_
  refine hK2 _ _ ?_
  clear hK2
  refine WC.seq (fun K3 hK3 => ?_)
  refine WC.region ?_
  refine WL.val rfl rfl rfl (Run.move rfl rfl) ?_
  refine WL.call rfl rfl rfl (Run.call Try.call51 rfl rfl rfl) (c_impl_within _ _ _ _) ?_
  rintro _ whs4 ⟨rfl, hs4⟩
  replace hs4 := hs1.call0 hs4
  refine ⟨_, rfl, ?_⟩
  refine WL.val rfl rfl rfl (Run.move rfl rfl) ?_
  apply WL.meetOr 8 5 13 [(0, _), (2, _)] rfl hs4
  · intro g5 J6
    refine WL.val (wantF rfl g5) rfl rfl (Run.move rfl rfl) ?_
    refine WL.call (wantF rfl g5) rfl rfl (Run.call Try.call51 rfl rfl rfl) (c_impl_within _ _ _ _) ?_
    rintro _ whs7 ⟨rfl, hs7⟩
    replace hs7 := hs4.call0 hs7
    refine ⟨_, rfl, ?_⟩
    refine WL.val (wantF rfl g5) rfl rfl (Run.move rfl rfl) ?_
    apply WL.meetAnd 4 8 12 [(0, _), (2, _), (5, _)] rfl hs7
    · intro g8 J9
      refine WL.val (wantT rfl g8) rfl rfl (Run.move rfl rfl) ?_
      refine WL.call (wantT rfl g8) rfl rfl (Run.call Try.call51 rfl rfl rfl) (c_impl_within _ _ _ _) ?_
      rintro _ whs10 ⟨rfl, hs10⟩
      replace hs10 := hs7.call0 hs10
      refine ⟨_, rfl, ?_⟩
      refine WL.val (wantT rfl g8) rfl rfl (Run.not rfl rfl) ?_
      refine WL.val (wantF rfl g5) rfl rfl (Run.pickT rfl rfl g8 rfl) ?_
      exact WL.fin J9 hs10 rfl (andT g8) ⟨rfl, rfl, rfl, trivial⟩
    · intro g8 J9
      refine WL.skip (wantNT rfl g8) rfl rfl ?_
      refine WL.skip (wantNT rfl g8) rfl rfl ?_
      refine WL.skip (wantNT rfl g8) rfl rfl ?_
      refine WL.val (wantF rfl g5) rfl rfl (Run.pickF rfl rfl g8 rfl) ?_
      exact WL.fin J9 hs7 rfl (andF g8) ⟨rfl, rfl, rfl, trivial⟩
    · intro whs11 hs11
      refine WL.val rfl rfl rfl (Run.pickF rfl rfl g5 rfl) ?_
      exact WL.fin J6 hs11 rfl (orF g5) ⟨rfl, rfl, trivial⟩
  · intro g5 J6
    refine WL.skip (wantNF rfl g5) rfl rfl ?_
    refine WL.skip (wantNF rfl g5) rfl rfl ?_
    refine WL.skip (wantNF rfl g5) rfl rfl ?_
    refine WL.skip rfl rfl rfl ?_
    refine WL.skip rfl rfl rfl ?_
    refine WL.skip rfl rfl rfl ?_
    refine WL.skip (wantNF rfl g5) rfl rfl ?_
    refine WL.val rfl rfl rfl (Run.pickT rfl rfl g5 rfl) ?_
    exact WL.fin J6 hs4 rfl (orT g5) ⟨rfl, rfl, trivial⟩
  · intro whs12 hs12
    refine WL.val rfl rfl rfl (Run.assign rfl rfl) ?_
    refine WL.nil ?_
    refine tkN ?_
    refine hK3 _ _ ?_
    clear hK3
    refine WC.ret ?_
    refine retV1 rfl (resV.tmp rfl) ?_
    refine ⟨congrArg Ending.returned ?_, hs12.nil⟩
    rfl
theorem c_impl_isCmd (s : ByteArray) (w : World) :
    Calls Try.prog 49 #[.string s] w fun e w' => e = .returned (.bool (isCmd s)) ∧ St w [] [] w' := by
  refine enter (vs := [.string s]) 6 Try.func49 rfl Try.ntmps49 rfl rfl ?_
  have hs1 := St.init w
  refine WC.seq (fun K2 hK2 => ?_)
  refine WC.region ?_
  refine WL.val rfl rfl rfl (Run.assign rfl rfl) ?_
  refine WL.nil ?_
  refine tkN ?_
  refine hK2 _ _ ?_
  clear hK2
  refine WC.seq (fun K3 hK3 => ?_)
  refine WC.region ?_
  refine WL.val rfl rfl rfl (Run.move rfl rfl) ?_
  refine WL.val rfl rfl rfl (Run.lenStr Try.runUnderlying9 rfl rfl) ?_
  refine WL.val rfl rfl rfl (Run.leq rfl rfl rfl) ?_
  refine WL.val rfl rfl rfl (Run.assign rfl rfl) ?_
  refine WL.nil ?_
  refine tkN ?_
  refine hK3 _ _ ?_
  clear hK3
  refine WC.ret ?_
  refine retV1 rfl (resV.tmp rfl) ?_
  refine ⟨congrArg Ending.returned ?_, hs1.nil⟩
  simp [isCmd]; omega
theorem c_impl_isId (n : Int) (w : World) :
    Calls Try.prog 50 #[i64 n] w fun e w' => e = .returned (.bool (isId n)) ∧ St w [] [] w' := by
  refine enter (vs := [i64 n]) 5 Try.func50 rfl Try.ntmps50 rfl rfl ?_
  have hs1 := St.init w
  refine WC.seq (fun K2 hK2 => ?_)
  refine WC.region ?_
  refine WL.val rfl rfl rfl (Run.assign rfl rfl) ?_
  refine WL.nil ?_
  refine tkN ?_
  refine hK2 _ _ ?_
  clear hK2
  refine WC.seq (fun K3 hK3 => ?_)
  refine WC.region ?_
  refine WL.val rfl rfl rfl (Run.move rfl rfl) ?_
  refine WL.call rfl rfl rfl (Run.call Try.call51 rfl rfl rfl) (c_impl_within _ _ _ _) ?_
  rintro _ whs4 ⟨rfl, hs4⟩
  replace hs4 := hs1.call0 hs4
  refine ⟨_, rfl, ?_⟩
  refine WL.val rfl rfl rfl (Run.assign rfl rfl) ?_
  refine WL.nil ?_
  refine tkN ?_
  refine hK3 _ _ ?_
  clear hK3
  refine WC.ret ?_
  refine retV1 rfl (resV.tmp rfl) ?_
  refine ⟨congrArg Ending.returned ?_, hs4.nil⟩
  rfl
theorem c_impl_isLength (n : Int) (w : World) :
    Calls Try.prog 53 #[i64 n] w fun e w' => e = .returned (.bool (isLength n)) ∧ St w [] [] w' := by
  refine enter (vs := [i64 n]) 5 Try.func53 rfl Try.ntmps53 rfl rfl ?_
  have hs1 := St.init w
  refine WC.seq (fun K2 hK2 => ?_)
  refine WC.region ?_
  refine WL.val rfl rfl rfl (Run.assign rfl rfl) ?_
  refine WL.nil ?_
  refine tkN ?_
  refine hK2 _ _ ?_
  clear hK2
  refine WC.seq (fun K3 hK3 => ?_)
  refine WC.region ?_
  refine WL.val rfl rfl rfl (Run.move rfl rfl) ?_
  refine WL.call rfl rfl rfl (Run.call Try.call51 rfl rfl rfl) (c_impl_within _ _ _ _) ?_
  rintro _ whs4 ⟨rfl, hs4⟩
  replace hs4 := hs1.call0 hs4
  refine ⟨_, rfl, ?_⟩
  refine WL.val rfl rfl rfl (Run.assign rfl rfl) ?_
  refine WL.nil ?_
  refine tkN ?_
  refine hK3 _ _ ?_
  clear hK3
  refine WC.ret ?_
  refine retV1 rfl (resV.tmp rfl) ?_
  refine ⟨congrArg Ending.returned ?_, hs4.nil⟩
  rfl
theorem c_impl_isSide (n : Int) (w : World) :
    Calls Try.prog 52 #[i64 n] w fun e w' => e = .returned (.bool (isSide n)) ∧ St w [] [] w' := by
  refine enter (vs := [i64 n]) 17 Try.func52 rfl Try.ntmps52 rfl rfl ?_
  have hs1 := St.init w
  refine WC.seq (fun K2 hK2 => ?_)
  refine WC.region ?_
  refine WL.val rfl rfl rfl (Run.assign rfl rfl) ?_
  refine WL.nil ?_
  refine tkN ?_
  refine hK2 _ _ ?_
  clear hK2
  refine WC.seq (fun K3 hK3 => ?_)
  refine WC.region ?_
  refine WL.val rfl rfl rfl (Run.move rfl rfl) ?_
  refine WL.val rfl rfl rfl (Run.eql rfl rfl rfl) ?_
  refine WL.val rfl rfl rfl (Run.move rfl rfl) ?_
  apply WL.meetOr 3 5 8 [(0, _), (2, _)] rfl hs1
  · intro g4 J5
    refine WL.val (wantF rfl g4) rfl rfl (Run.move rfl rfl) ?_
    refine WL.val (wantF rfl g4) rfl rfl (Run.eql rfl rfl rfl) ?_
    refine WL.val rfl rfl rfl (Run.pickF rfl rfl g4 rfl) ?_
    exact WL.fin J5 hs1 rfl (orF g4) ⟨rfl, rfl, trivial⟩
  · intro g4 J5
    refine WL.skip (wantNF rfl g4) rfl rfl ?_
    refine WL.skip (wantNF rfl g4) rfl rfl ?_
    refine WL.val rfl rfl rfl (Run.pickT rfl rfl g4 rfl) ?_
    exact WL.fin J5 hs1 rfl (orT g4) ⟨rfl, rfl, trivial⟩
  · intro whs6 hs6
    refine WL.val rfl rfl rfl (Run.move rfl rfl) ?_
    apply WL.meetOr 3 9 12 [(0, _), (2, _)] rfl hs6
    · intro g7 J8
      refine WL.val (wantF rfl g7) rfl rfl (Run.move rfl rfl) ?_
      refine WL.val (wantF rfl g7) rfl rfl (Run.eql rfl rfl rfl) ?_
      refine WL.val rfl rfl rfl (Run.pickF rfl rfl g7 rfl) ?_
      exact WL.fin J8 hs6 rfl (orF g7) ⟨rfl, rfl, trivial⟩
    · intro g7 J8
      refine WL.skip (wantNF rfl g7) rfl rfl ?_
      refine WL.skip (wantNF rfl g7) rfl rfl ?_
      refine WL.val rfl rfl rfl (Run.pickT rfl rfl g7 rfl) ?_
      exact WL.fin J8 hs6 rfl (orT g7) ⟨rfl, rfl, trivial⟩
    · intro whs9 hs9
      refine WL.val rfl rfl rfl (Run.move rfl rfl) ?_
      apply WL.meetOr 3 13 16 [(0, _), (2, _)] rfl hs9
      · intro g10 J11
        refine WL.val (wantF rfl g10) rfl rfl (Run.move rfl rfl) ?_
        refine WL.val (wantF rfl g10) rfl rfl (Run.eql rfl rfl rfl) ?_
        refine WL.val rfl rfl rfl (Run.pickF rfl rfl g10 rfl) ?_
        exact WL.fin J11 hs9 rfl (orF g10) ⟨rfl, rfl, trivial⟩
      · intro g10 J11
        refine WL.skip (wantNF rfl g10) rfl rfl ?_
        refine WL.skip (wantNF rfl g10) rfl rfl ?_
        refine WL.val rfl rfl rfl (Run.pickT rfl rfl g10 rfl) ?_
        exact WL.fin J11 hs9 rfl (orT g10) ⟨rfl, rfl, trivial⟩
      · intro whs12 hs12
        refine WL.val rfl rfl rfl (Run.assign rfl rfl) ?_
        refine WL.nil ?_
        refine tkN ?_
        refine hK3 _ _ ?_
        clear hK3
        refine WC.ret ?_
        refine retV1 rfl (resV.tmp rfl) ?_
        refine ⟨congrArg Ending.returned ?_, hs12.nil⟩
        simp [isSide]
theorem c_spec_l16In (h : Bool) (n lo hi : Int) (w : World) :
    Calls Try.prog 46 #[.bool h, i64 n, i64 lo, i64 hi] w fun e w' => e = .returned (.bool (fieldIn h n lo hi)) ∧ St w [] [] w' := by
  refine enter (vs := [.bool h, i64 n, i64 lo, i64 hi]) 21 Try.func46 rfl Try.ntmps46 rfl rfl ?_
  have hs1 := St.init w
  refine WC.seq (fun K2 hK2 => ?_)
  refine WC.region ?_
  refine WL.val rfl rfl rfl (Run.assign rfl rfl) ?_
  refine WL.nil ?_
  refine tkN ?_
  refine hK2 _ _ ?_
  clear hK2
  refine WC.seq (fun K3 hK3 => ?_)
  refine WC.seq (fun K4 hK4 => ?_)
  refine WC.region ?_
  refine WL.val rfl rfl rfl (Run.move rfl rfl) ?_
  refine WL.val rfl rfl rfl (Run.not rfl rfl) ?_
  refine WL.nil ?_
  refine tkN ?_
  refine hK4 _ _ ?_
  clear hK4
  refine WC.cond rfl (fun h5 => ?_) (fun h5 => ?_)
  · have qh5 := h5
    try simp only [decide_eq_true_eq, decide_eq_false_iff_not, Bool.not_eq_true', Bool.not_eq_false', Bool.and_eq_true, Bool.or_eq_false_iff, within_iff, within_not] at qh5
    refine WC.seq (fun K6 hK6 => ?_)
    refine WC.region ?_
    refine WL.val rfl rfl rfl (Run.move rfl rfl) ?_
    refine WL.val rfl rfl rfl (Run.eql rfl rfl rfl) ?_
    refine WL.val rfl rfl rfl (Run.assign rfl rfl) ?_
    refine WL.nil ?_
    refine tkN ?_
    refine hK6 _ _ ?_
    clear hK6
    refine WC.ret ?_
    refine tkR ?_
    clear hK3
    refine retV1 rfl (resV.tmp rfl) ?_
    refine ⟨congrArg Ending.returned ?_, hs1.nil⟩
    cases h <;> simp_all [fieldIn]
  · have qh5 := h5
    try simp only [decide_eq_true_eq, decide_eq_false_iff_not, Bool.not_eq_true', Bool.not_eq_false', Bool.and_eq_true, Bool.or_eq_false_iff, within_iff, within_not] at qh5
    refine WC.skip ?_
    refine tkN ?_
    refine hK3 _ _ ?_
    clear hK3
    refine WC.seq (fun K7 hK7 => ?_)
    refine WC.region ?_
    refine WL.val rfl rfl rfl (Run.move rfl rfl) ?_
    refine WL.val rfl rfl rfl (Run.move rfl rfl) ?_
    refine WL.val rfl rfl rfl (Run.geq rfl rfl rfl) ?_
    refine WL.val rfl rfl rfl (Run.move rfl rfl) ?_
    apply WL.meetAnd 4 16 20 [(0, _), (1, _), (2, _), (3, _), (8, _), (9, _), (10, _)] rfl hs1
    · intro g8 J9
      refine WL.val (wantT rfl g8) rfl rfl (Run.move rfl rfl) ?_
      refine WL.val (wantT rfl g8) rfl rfl (Run.move rfl rfl) ?_
      refine WL.val (wantT rfl g8) rfl rfl (Run.leq rfl rfl rfl) ?_
      refine WL.val rfl rfl rfl (Run.pickT rfl rfl g8 rfl) ?_
      exact WL.fin J9 hs1 rfl (andT g8) ⟨rfl, rfl, rfl, rfl, rfl, rfl, rfl, trivial⟩
    · intro g8 J9
      refine WL.skip (wantNT rfl g8) rfl rfl ?_
      refine WL.skip (wantNT rfl g8) rfl rfl ?_
      refine WL.skip (wantNT rfl g8) rfl rfl ?_
      refine WL.val rfl rfl rfl (Run.pickF rfl rfl g8 rfl) ?_
      exact WL.fin J9 hs1 rfl (andF g8) ⟨rfl, rfl, rfl, rfl, rfl, rfl, rfl, trivial⟩
    · intro whs10 hs10
      refine WL.val rfl rfl rfl (Run.assign rfl rfl) ?_
      refine WL.nil ?_
      refine tkN ?_
      refine hK7 _ _ ?_
      clear hK7
      refine WC.ret ?_
      refine retV1 rfl (resV.tmp rfl) ?_
      refine ⟨congrArg Ending.returned ?_, hs10.nil⟩
      cases h <;> simp_all [fieldIn]
theorem c_internal_stringslite_IndexByte (s : ByteArray) (c : Int) (w : World) :
    Calls Try.prog 144 #[.string s, .int .u8 c] w fun e w' => e = .returned (.int .i64 (firstIdx s c.toNat.toUInt8)) ∧ St w [] [] w' := by
  refine enter (vs := [.string s, .int .u8 c]) 8 Try.func144 rfl Try.ntmps144 rfl rfl ?_
  have hs1 := St.init w
  refine WC.seq (fun K2 hK2 => ?_)
  refine WC.region ?_
  refine WL.val rfl rfl rfl (Run.assign rfl rfl) ?_
  refine WL.nil ?_
  refine tkN ?_
  refine hK2 _ _ ?_
  clear hK2
  refine WC.seq (fun K3 hK3 => ?_)
  refine WC.region ?_
  refine WL.val rfl rfl rfl (Run.move rfl rfl) ?_
  refine WL.val rfl rfl rfl (Run.move rfl rfl) ?_
  refine WL.val rfl rfl rfl (Run.ext (ext_idx _ _) rfl rfl rfl) ?_
  refine WL.val rfl rfl rfl (Run.assign rfl rfl) ?_
  refine WL.nil ?_
  refine tkN ?_
  refine hK3 _ _ ?_
  clear hK3
  refine WC.ret ?_
  refine retV1 rfl (resV.tmp rfl) ?_
  refine ⟨congrArg Ending.returned ?_, hs1.nil⟩
  rfl
theorem c_strings_IndexByte (s : ByteArray) (c : Int) (w : World) :
    Calls Try.prog 126 #[.string s, .int .u8 c] w fun e w' => e = .returned (.int .i64 (firstIdx s c.toNat.toUInt8)) ∧ St w [] [] w' := by
  refine enter (vs := [.string s, .int .u8 c]) 8 Try.func126 rfl Try.ntmps126 rfl rfl ?_
  have hs1 := St.init w
  refine WC.seq (fun K2 hK2 => ?_)
  refine WC.region ?_
  refine WL.val rfl rfl rfl (Run.assign rfl rfl) ?_
  refine WL.nil ?_
  refine tkN ?_
  refine hK2 _ _ ?_
  clear hK2
  refine WC.seq (fun K3 hK3 => ?_)
  refine WC.region ?_
  refine WL.val rfl rfl rfl (Run.move rfl rfl) ?_
  refine WL.val rfl rfl rfl (Run.move rfl rfl) ?_
  refine WL.call rfl rfl rfl (Run.call Try.call144 rfl rfl rfl) (c_internal_stringslite_IndexByte _ _ _) ?_
  rintro _ whs4 ⟨rfl, hs4⟩
  replace hs4 := hs1.call0 hs4
  refine ⟨_, rfl, ?_⟩
  refine WL.val rfl rfl rfl (Run.assign rfl rfl) ?_
  refine WL.nil ?_
  refine tkN ?_
  refine hK3 _ _ ?_
  clear hK3
  refine WC.ret ?_
  refine retV1 rfl (resV.tmp rfl) ?_
  refine ⟨congrArg Ending.returned ?_, hs4.nil⟩
  rfl
theorem c_impl_isPlain (s : ByteArray) (most : Int) (more : ByteArray) (w : World) (hz : s.size ≤ 1099511627776) :
    Calls Try.prog 92 #[.string s, i64 most, .string more] w fun e w' => e = .returned (.bool (isPlain s most more)) ∧ St w [] [] w' := by
  refine enter (vs := [.string s, i64 most, .string more]) 43 Try.func92 rfl Try.ntmps92 rfl rfl ?_
  have hs1 := St.init w
  refine WC.seq (fun K2 hK2 => ?_)
  refine WC.region ?_
  refine WL.val rfl rfl rfl (Run.assign rfl rfl) ?_
  refine WL.nil ?_
  refine tkN ?_
  refine hK2 _ _ ?_
  clear hK2
  refine WC.seq (fun K3 hK3 => ?_)
  refine WC.seq (fun K4 hK4 => ?_)
  refine WC.region ?_
  refine WL.val rfl rfl rfl (Run.move rfl rfl) ?_
  refine WL.val rfl rfl rfl (Run.lenStr Try.runUnderlying9 rfl rfl) ?_
  refine WL.val rfl rfl rfl (Run.move rfl rfl) ?_
  refine WL.nil ?_
  refine tkN ?_
  refine hK4 _ _ ?_
  clear hK4
  refine WC.block ?_
  refine WC.loopS [(0, _), (1, _), (2, _), (9, _), (10, _)] ⟨rfl, rfl, rfl, rfl, rfl, trivial⟩ hs1 (fun k_ f w' => ∃ (i : Nat), k_ = s.size - i ∧ (i ≤ s.size) ∧ (upto (plainB more) s i) ∧ Sub [(11, .int .i64 i)] f) ((fun (i : Nat) => s.size - i) (0)) ?_ ?_
  · refine ⟨0, rfl, ?_, ?_, ⟨rfl, trivial⟩⟩
    · exact Nat.zero_le _
    · exact upto_zero
  · clear hs1
    rintro _ f w ⟨i, rfl, p0, p1, hG⟩ hF hs5
    refine WC.sub _ (hG.app hF) ?_
    clear hG hF
    refine WC.seq (fun K6 hK6 => ?_)
    refine WC.region ?_
    refine WL.val rfl rfl rfl (Run.lss rfl rfl rfl) ?_
    refine WL.nil ?_
    refine tkN ?_
    refine hK6 _ _ ?_
    clear hK6
    refine WC.seq (fun K7 hK7 => ?_)
    refine WC.cond rfl (fun h8 => ?_) (fun h8 => ?_)
    · have qh8 := h8
      try simp only [decide_eq_true_eq, decide_eq_false_iff_not, Bool.not_eq_true', Bool.not_eq_false', Bool.and_eq_true, Bool.or_eq_false_iff, within_iff, within_not] at qh8
      refine WC.skip ?_
      refine tkN ?_
      refine hK7 _ _ ?_
      clear hK7
      refine WC.seq (fun K9 hK9 => ?_)
      refine WC.block ?_
      refine WC.seq (fun K10 hK10 => ?_)
      refine WC.region ?_
      refine WL.val rfl rfl rfl (Run.move rfl rfl) ?_
      refine WL.val rfl rfl rfl (Run.assign rfl rfl) ?_
      refine WL.nil ?_
      refine tkN ?_
      refine hK10 _ _ ?_
      clear hK10
      refine WC.seq (fun K11 hK11 => ?_)
      refine WC.region ?_
      refine WL.val rfl rfl rfl (Run.move rfl rfl) ?_
      refine WL.val rfl rfl rfl (Run.move rfl rfl) ?_
      refine WL.val rfl rfl rfl (Run.idxStr Try.runUnderlying9 rfl rfl rfl ?_ ?_) ?_
      · omega
      · omega
      refine WL.val rfl rfl rfl (Run.assign rfl rfl) ?_
      refine WL.nil ?_
      refine tkN ?_
      refine hK11 _ _ ?_
      clear hK11
      refine WC.seq (fun K12 hK12 => ?_)
      refine WC.region ?_
      refine WL.val rfl rfl rfl (Run.move rfl rfl) ?_
      refine WL.val rfl rfl rfl (Run.geq rfl rfl rfl) ?_
      refine WL.val rfl rfl rfl (Run.move rfl rfl) ?_
      apply WL.meetAnd 3 19 22 [(0, _), (1, _), (2, _), (7, _), (8, _), (9, _), (10, _), (11, _), (12, _), (13, _), (14, _), (15, _), (16, _)] rfl hs5
      · intro g13 J14
        refine WL.val (wantT rfl g13) rfl rfl (Run.move rfl rfl) ?_
        refine WL.val (wantT rfl g13) rfl rfl (Run.leq rfl rfl rfl) ?_
        refine WL.val rfl rfl rfl (Run.pickT rfl rfl g13 rfl) ?_
        exact WL.fin J14 hs5 rfl (andT g13) ⟨rfl, rfl, rfl, rfl, rfl, rfl, rfl, rfl, rfl, rfl, rfl, rfl, rfl, trivial⟩
      · intro g13 J14
        refine WL.skip (wantNT rfl g13) rfl rfl ?_
        refine WL.skip (wantNT rfl g13) rfl rfl ?_
        refine WL.val rfl rfl rfl (Run.pickF rfl rfl g13 rfl) ?_
        exact WL.fin J14 hs5 rfl (andF g13) ⟨rfl, rfl, rfl, rfl, rfl, rfl, rfl, rfl, rfl, rfl, rfl, rfl, rfl, trivial⟩
      · intro whs15 hs15
        refine WL.val rfl rfl rfl (Run.move rfl rfl) ?_
        apply WL.meetOr 7 23 30 [(0, _), (1, _), (2, _), (7, _), (8, _), (9, _), (10, _), (11, _), (12, _), (13, _), (14, _), (15, _), (16, _)] rfl hs15
        · intro g16 J17
          refine WL.val (wantF rfl g16) rfl rfl (Run.move rfl rfl) ?_
          refine WL.val (wantF rfl g16) rfl rfl (Run.geq rfl rfl rfl) ?_
          refine WL.val (wantF rfl g16) rfl rfl (Run.move rfl rfl) ?_
          apply WL.meetAnd 3 26 29 [(0, _), (1, _), (2, _), (7, _), (8, _), (9, _), (10, _), (11, _), (12, _), (13, _), (14, _), (15, _), (16, _), (23, _)] rfl hs15
          · intro g18 J19
            refine WL.val (wantT rfl g18) rfl rfl (Run.move rfl rfl) ?_
            refine WL.val (wantT rfl g18) rfl rfl (Run.leq rfl rfl rfl) ?_
            refine WL.val (wantF rfl g16) rfl rfl (Run.pickT rfl rfl g18 rfl) ?_
            exact WL.fin J19 hs15 rfl (andT g18) ⟨rfl, rfl, rfl, rfl, rfl, rfl, rfl, rfl, rfl, rfl, rfl, rfl, rfl, rfl, trivial⟩
          · intro g18 J19
            refine WL.skip (wantNT rfl g18) rfl rfl ?_
            refine WL.skip (wantNT rfl g18) rfl rfl ?_
            refine WL.val (wantF rfl g16) rfl rfl (Run.pickF rfl rfl g18 rfl) ?_
            exact WL.fin J19 hs15 rfl (andF g18) ⟨rfl, rfl, rfl, rfl, rfl, rfl, rfl, rfl, rfl, rfl, rfl, rfl, rfl, rfl, trivial⟩
          · intro whs20 hs20
            refine WL.val rfl rfl rfl (Run.pickF rfl rfl g16 rfl) ?_
            exact WL.fin J17 hs20 rfl (orF g16) ⟨rfl, rfl, rfl, rfl, rfl, rfl, rfl, rfl, rfl, rfl, rfl, rfl, rfl, trivial⟩
        · intro g16 J17
          refine WL.skip (wantNF rfl g16) rfl rfl ?_
          refine WL.skip (wantNF rfl g16) rfl rfl ?_
          refine WL.skip (wantNF rfl g16) rfl rfl ?_
          refine WL.skip rfl rfl rfl ?_
          refine WL.skip rfl rfl rfl ?_
          refine WL.skip (wantNF rfl g16) rfl rfl ?_
          refine WL.val rfl rfl rfl (Run.pickT rfl rfl g16 rfl) ?_
          exact WL.fin J17 hs15 rfl (orT g16) ⟨rfl, rfl, rfl, rfl, rfl, rfl, rfl, rfl, rfl, rfl, rfl, rfl, rfl, trivial⟩
        · intro whs21 hs21
          refine WL.val rfl rfl rfl (Run.move rfl rfl) ?_
          apply WL.meetOr 5 31 36 [(0, _), (1, _), (2, _), (7, _), (8, _), (9, _), (10, _), (11, _), (12, _), (13, _), (14, _), (15, _), (16, _)] rfl hs21
          · intro g22 J23
            refine WL.val (wantF rfl g22) rfl rfl (Run.move rfl rfl) ?_
            refine WL.val (wantF rfl g22) rfl rfl (Run.move rfl rfl) ?_
            refine WL.call (wantF rfl g22) rfl rfl (Run.call Try.call126 rfl rfl rfl) (c_strings_IndexByte _ _ _) ?_
            rintro _ whs24 ⟨rfl, hs24⟩
            replace hs24 := hs21.call0 hs24
            refine ⟨_, rfl, ?_⟩
            refine WL.val (wantF rfl g22) rfl rfl (Run.geq rfl rfl rfl) ?_
            refine WL.val rfl rfl rfl (Run.pickF rfl rfl g22 rfl) ?_
            exact WL.fin J23 hs24 rfl (orF g22) ⟨rfl, rfl, rfl, rfl, rfl, rfl, rfl, rfl, rfl, rfl, rfl, rfl, rfl, trivial⟩
          · intro g22 J23
            refine WL.skip (wantNF rfl g22) rfl rfl ?_
            refine WL.skip (wantNF rfl g22) rfl rfl ?_
            refine WL.skip (wantNF rfl g22) rfl rfl ?_
            refine WL.skip (wantNF rfl g22) rfl rfl ?_
            refine WL.val rfl rfl rfl (Run.pickT rfl rfl g22 rfl) ?_
            exact WL.fin J23 hs21 rfl (orT g22) ⟨rfl, rfl, rfl, rfl, rfl, rfl, rfl, rfl, rfl, rfl, rfl, rfl, rfl, trivial⟩
          · intro whs25 hs25
            refine WL.val rfl rfl rfl (Run.not rfl rfl) ?_
            refine WL.nil ?_
            refine tkN ?_
            refine hK12 _ _ ?_
            clear hK12
            refine WC.cond rfl (fun h26 => ?_) (fun h26 => ?_)
            · have qh26 := h26
              try simp only [decide_eq_true_eq, decide_eq_false_iff_not, Bool.not_eq_true', Bool.not_eq_false', Bool.and_eq_true, Bool.or_eq_false_iff, within_iff, within_not] at qh26
              refine WC.seq (fun K27 hK27 => ?_)
              refine WC.region ?_
              refine WL.val rfl rfl rfl (Run.assign rfl rfl) ?_
              refine WL.nil ?_
              refine tkN ?_
              refine hK27 _ _ ?_
              clear hK27
              refine WC.ret ?_
              refine ibR ?_
              refine tkR ?_
              refine tkR ?_
              refine ibR ?_
              refine tkR ?_
              clear hK9 hK3
              refine retV1 rfl (resV.tmp rfl) ?_
              refine ⟨congrArg Ending.returned ?_, hs25.nil⟩
              have e : plainB more (sbyte s i) = false := by simpa [plainB, wordB] using qh26
              simp [isPlain, allB_false (by omega) e]
            · have qh26 := h26
              try simp only [decide_eq_true_eq, decide_eq_false_iff_not, Bool.not_eq_true', Bool.not_eq_false', Bool.and_eq_true, Bool.or_eq_false_iff, within_iff, within_not] at qh26
              refine WC.skip ?_
              refine ibN ?_
              refine tkN ?_
              refine hK9 _ _ ?_
              clear hK9
              refine WC.region ?_
              refine WL.val rfl rfl rfl (Run.add rfl rfl rfl ?_) ?_
              · constructor <;> omega
              refine WL.val rfl rfl rfl (Run.move rfl rfl) ?_
              refine WL.nil ?_
              refine tkN ?_
              refine ⟨⟨rfl, rfl, rfl, rfl, rfl, trivial⟩, hs25, _, ?_, i + 1, rfl, ?_, ?_, ⟨rfl, trivial⟩⟩
              · omega
              · omega
              · refine upto_succ p1 ?_; simpa [plainB, wordB] using qh26
    · have qh8 := h8
      try simp only [decide_eq_true_eq, decide_eq_false_iff_not, Bool.not_eq_true', Bool.not_eq_false', Bool.and_eq_true, Bool.or_eq_false_iff, within_iff, within_not] at qh8
      refine WC.exit ?_
      refine tkE ?_
      refine tkE ?_
      refine ibE ?_
      refine tkN ?_
      refine hK3 _ _ ?_
      clear hK3
      refine WC.seq (fun K28 hK28 => ?_)
      refine WC.region ?_
      refine WL.val rfl rfl rfl (Run.move rfl rfl) ?_
      refine WL.val rfl rfl rfl (Run.lenStr Try.runUnderlying9 rfl rfl) ?_
      refine WL.val rfl rfl rfl (Run.move rfl rfl) ?_
      refine WL.call rfl rfl rfl (Run.call Try.call51 rfl rfl rfl) (c_impl_within _ _ _ _) ?_
      rintro _ whs29 ⟨rfl, hs29⟩
      replace hs29 := hs5.call0 hs29
      refine ⟨_, rfl, ?_⟩
      refine WL.val rfl rfl rfl (Run.assign rfl rfl) ?_
      refine WL.nil ?_
      refine tkN ?_
      refine hK28 _ _ ?_
      clear hK28
      refine WC.ret ?_
      refine retV1 rfl (resV.tmp rfl) ?_
      refine ⟨congrArg Ending.returned ?_, hs29.nil⟩
      simp [isPlain, allB_true p1 (by omega)]
end Go.Proofs.Ytpiimkfonlijdaa
