/- This text is this session's own, not the print's: programs (wip/squeeze.py and others) made it out of what print.sh, or wip/ownprint.py, had written (BYTES set higher), its facts said by short words. -/
import Derived.Test.YtoaglacdklmafaaPFnExactKindChangesx0
import Derived.Test.YtoaglacdklmafaaPFnExactKindChangesx2
import Derived.Test.YtoaglacdklmafaaPFnExactKindChangesx3
import Derived.Test.YtoaglacdklmafaaPFnExactKindChangesx4
import Derived.Test.YtoaglacdklmafaaPFnExactKindChangesx6
import Derived.Test.YtoaglacdklmafaaPFnExactKindChangeswx7
namespace Go.Proofs.Ytoaglacdklmafaa.PFnExactKindChanges
open Go.RowKit Go.Proofs.YtoaglacdklmafaaW.PrintWords Go.Proofs.YtoaglacdklmafaaW.PrintLast Go.Proofs.YtoaglacdklmafaaW.PrintMore
attribute [local go_sem] max2_int min2_int max_two min_two max_three min_three max_four min_four   -- for this text's walks alone
set_option linter.unusedVariables false
set_option linter.unusedSimpArgs false

/-! ### laws_FnExactKindChanges: function 12 -/
mutual
def laws_FnExactKindChanges.j0 : Nat → Int → List Int → List Int → Bool → List Int → List Int → Bool → Bool → Int → Int → Int → List Int → List Int → List Int → Int → Int → Int → List Int → List Int → List Int → Int → Int → Int → List Int → List Int → List Int → Int → Int → Int → List Int → List Int → List Int → Option (Bool)
 | 0, _, _, _, _, _, _, _, _, _, _, _, _, _, _, _, _, _, _, _, _, _, _, _, _, _, _, _, _, _, _, _, _ => none
 | k + 1, x2, x8, x9, x10, x13, x14, x15, x68, x213000, x213001, x213002, x213003, x213004, x213005, x214000, x214001, x214002, x214003, x214004, x214005, x260000, x260001, x260002, x260003, x260004, x260005, x273000, x273001, x273002, x273003, x273004, x273005 => if x68 = true then (some false) else ((laws_toModel.f k x213000 x213001 x213002 x213003 x213004 x213005).bind fun bt282 => ((laws_eqModel.f k x260000 x260001 x260002 x260003 x260004 x260005 bt282.1 bt282.2.1 bt282.2.2.1 bt282.2.2.2.1 bt282.2.2.2.2.1 bt282.2.2.2.2.2).bind fun t294 => (if t294 = true then (laws_FnExactKindChanges.j1 k x2 x8 x9 x10 x13 x14 x15 x213000 x213001 x213002 x213003 x213004 x213005 x214000 x214001 x214002 x214003 x214004 x214005 x260000 x260001 x260002 x260003 x260004 x260005 x273000 x273001 x273002 x273003 x273004 x273005) else (some false))))
def laws_FnExactKindChanges.j1 : Nat → Int → List Int → List Int → Bool → List Int → List Int → Bool → Int → Int → Int → List Int → List Int → List Int → Int → Int → Int → List Int → List Int → List Int → Int → Int → Int → List Int → List Int → List Int → Int → Int → Int → List Int → List Int → List Int → Option (Bool)
 | 0, _, _, _, _, _, _, _, _, _, _, _, _, _, _, _, _, _, _, _, _, _, _, _, _, _, _, _, _, _, _, _ => none
 | k + 1, x2, x8, x9, x10, x13, x14, x15, x213000, x213001, x213002, x213003, x213004, x213005, x214000, x214001, x214002, x214003, x214004, x214005, x260000, x260001, x260002, x260003, x260004, x260005, x273000, x273001, x273002, x273003, x273004, x273005 => (laws_toModel.f k x214000 x214001 x214002 x214003 x214004 x214005).bind fun bt295 => ((laws_eqModel.f k x273000 x273001 x273002 x273003 x273004 x273005 bt295.1 bt295.2.1 bt295.2.2.1 bt295.2.2.2.1 bt295.2.2.2.2.1 bt295.2.2.2.2.2).bind fun t307 => (if t307 = true then (laws_FnExactKindChanges.j2 k x2 x8 x9 x10 x13 x14 x15 x213000 x213001 x213002 x213003 x213004 x213005 x214000 x214001 x214002 x214003 x214004 x214005 x260000 x260001 x260002 x260003 x260004 x260005 x273000 x273001 x273002 x273003 x273004 x273005) else (some false)))
def laws_FnExactKindChanges.j2 : Nat → Int → List Int → List Int → Bool → List Int → List Int → Bool → Int → Int → Int → List Int → List Int → List Int → Int → Int → Int → List Int → List Int → List Int → Int → Int → Int → List Int → List Int → List Int → Int → Int → Int → List Int → List Int → List Int → Option (Bool)
 | 0, _, _, _, _, _, _, _, _, _, _, _, _, _, _, _, _, _, _, _, _, _, _, _, _, _, _, _, _, _, _, _ => none
 | k + 1, x2, x8, x9, x10, x13, x14, x15, x213000, x213001, x213002, x213003, x213004, x213005, x214000, x214001, x214002, x214003, x214004, x214005, x260000, x260001, x260002, x260003, x260004, x260005, x273000, x273001, x273002, x273003, x273004, x273005 => (laws_markModel.f k x260000 x260001 x260002 x260003 x260004 x260005 1).bind fun bt308 => ((laws_markModel.f k x273000 x273001 x273002 x273003 x273004 x273005 bt308.1).bind fun bt312 => (if bt312.1 < 0 then (laws_FnExactKindChanges.j3 k x2 x8 x9 x10 x13 x14 true x213000 x213001 x213002 x213003 x213004 x213005 x214000 x214001 x214002 x214003 x214004 x214005) else ((laws_eqIntS.f k x13 x8).bind fun t316 => (if t316 = true then ((laws_eqIntS.f k x14 x9).bind fun t317 => (if t317 = true then (laws_FnExactKindChanges.j3 k x2 x8 x9 x10 x13 x14 (x15 != x10) x213000 x213001 x213002 x213003 x213004 x213005 x214000 x214001 x214002 x214003 x214004 x214005) else (laws_FnExactKindChanges.j3 k x2 x8 x9 x10 x13 x14 true x213000 x213001 x213002 x213003 x213004 x213005 x214000 x214001 x214002 x214003 x214004 x214005))) else (laws_FnExactKindChanges.j3 k x2 x8 x9 x10 x13 x14 true x213000 x213001 x213002 x213003 x213004 x213005 x214000 x214001 x214002 x214003 x214004 x214005)))))
def laws_FnExactKindChanges.j3 : Nat → Int → List Int → List Int → Bool → List Int → List Int → Bool → Int → Int → Int → List Int → List Int → List Int → Int → Int → Int → List Int → List Int → List Int → Option (Bool)
 | 0, _, _, _, _, _, _, _, _, _, _, _, _, _, _, _, _, _, _, _ => none
 | k + 1, x2, x8, x9, x10, x13, x14, x103, x213000, x213001, x213002, x213003, x213004, x213005, x214000, x214001, x214002, x214003, x214004, x214005 => if x103 = true then (some false) else ((laws_markIntS.f k x13 1).bind fun bt318 => ((laws_markIntS.f k x14 bt318.1).bind fun bt320 => ((laws_heldIntS.f k bt318.2 1).bind fun t322 => (if t322 < 0 then (some false) else (laws_FnExactKindChanges.j4 k x2 x8 x9 x10 bt318.2 bt320.2 bt320.1 t322 x213000 x213001 x213002 x213003 x213004 x213005 x214000 x214001 x214002 x214003 x214004 x214005)))))
def laws_FnExactKindChanges.j4 : Nat → Int → List Int → List Int → Bool → List Int → List Int → Int → Int → Int → Int → Int → List Int → List Int → List Int → Int → Int → Int → List Int → List Int → List Int → Option (Bool)
 | 0, _, _, _, _, _, _, _, _, _, _, _, _, _, _, _, _, _, _, _, _ => none
 | k + 1, x2, x8, x9, x10, x13, x14, x17, x18, x213000, x213001, x213002, x213003, x213004, x213005, x214000, x214001, x214002, x214003, x214004, x214005 => (laws_heldIntS.f k x14 x18).bind fun t323 => (if t323 < 0 then (some false) else (if t323 = x17 then ((laws_toModel.f k x213000 x213001 x213002 x213003 x213004 x213005).bind fun bt324 => ((laws_toModel.f k x214000 x214001 x214002 x214003 x214004 x214005).bind fun bt336 => ((impl_KindChanges.f k bt324.1 bt324.2.1 bt324.2.2.1 bt324.2.2.2.1 bt324.2.2.2.2.1 bt324.2.2.2.2.2 bt336.1 bt336.2.1 bt336.2.2.1 bt336.2.2.2.1 bt336.2.2.2.2.1 bt336.2.2.2.2.2 x2).bind fun bt348 => ((laws_eqIntS.f k bt348.1 x8).bind fun t355 => (if t355 = true then ((laws_eqIntS.f k bt348.2.1 x9).bind fun t356 => (if t356 = true then (laws_FnExactKindChanges.j5 k x13 x14 x17 (bt348.2.2 != x10)) else (laws_FnExactKindChanges.j5 k x13 x14 x17 true))) else (laws_FnExactKindChanges.j5 k x13 x14 x17 true)))))) else (some false)))
def laws_FnExactKindChanges.j5 : Nat → List Int → List Int → Int → Bool → Option (Bool)
 | 0, _, _, _, _ => none
 | k + 1, x13, x14, x17, x147 => if x147 = true then (some false) else ((laws_heldIntS.f k x13 1).bind fun t357 => (if t357 < 0 then (some false) else ((laws_heldIntS.f k x14 t357).bind fun t358 => (if t358 < 0 then (some false) else (if t358 = x17 then (some true) else (some false))))))
end
def laws_FnExactKindChanges.f (k : Nat) (a0_0 : Int) (a0_1 : Int) (a0_2 : Int) (l0_3 : List Int) (l0_4 : List Int) (l0_5 : List Int) (a1_0 : Int) (a1_1 : Int) (a1_2 : Int) (l1_3 : List Int) (l1_4 : List Int) (l1_5 : List Int) (a2 : Int) : Option (Bool) := (laws_szModel.f a0_0 a0_1 a0_2 l0_3 l0_4 l0_5 1048576).bind fun t214 => (if t214 < 0 then (some true) else ((laws_szModel.f a1_0 a1_1 a1_2 l1_3 l1_4 l1_5 t214).bind fun t215 => (if t215 < 0 then (some true) else ((laws_toModel.f k a0_0 a0_1 a0_2 l0_3 l0_4 l0_5).bind fun bt216 => ((laws_toModel.f k a1_0 a1_1 a1_2 l1_3 l1_4 l1_5).bind fun bt228 => ((spec_KindChanges.f k bt216.1 bt216.2.1 bt216.2.2.1 bt216.2.2.2.1 bt216.2.2.2.2.1 bt216.2.2.2.2.2 bt228.1 bt228.2.1 bt228.2.2.1 bt228.2.2.2.1 bt228.2.2.2.2.1 bt228.2.2.2.2.2 a2).bind fun bt240 => ((laws_toModel.f k a0_0 a0_1 a0_2 l0_3 l0_4 l0_5).bind fun bt247 => ((laws_toModel.f k a1_0 a1_1 a1_2 l1_3 l1_4 l1_5).bind fun bt260 => ((impl_KindChanges.f k bt247.1 bt247.2.1 bt247.2.2.1 bt247.2.2.2.1 bt247.2.2.2.2.1 bt247.2.2.2.2.2 bt260.1 bt260.2.1 bt260.2.2.1 bt260.2.2.2.1 bt260.2.2.2.2.1 bt260.2.2.2.2.2 a2).bind fun bt273 => ((laws_eqIntS.f k bt273.1 bt240.1).bind fun t280 => (if t280 = true then ((laws_eqIntS.f k bt273.2.1 bt240.2.1).bind fun t281 => (if t281 = true then (laws_FnExactKindChanges.j0 k a2 bt240.1 bt240.2.1 bt240.2.2 bt273.1 bt273.2.1 bt273.2.2 (bt273.2.2 != bt240.2.2) a0_0 a0_1 a0_2 l0_3 l0_4 l0_5 a1_0 a1_1 a1_2 l1_3 l1_4 l1_5 bt247.1 bt247.2.1 bt247.2.2.1 bt247.2.2.2.1 bt247.2.2.2.2.1 bt247.2.2.2.2.2 bt260.1 bt260.2.1 bt260.2.2.1 bt260.2.2.2.1 bt260.2.2.2.2.1 bt260.2.2.2.2.2) else (laws_FnExactKindChanges.j0 k a2 bt240.1 bt240.2.1 bt240.2.2 bt273.1 bt273.2.1 bt273.2.2 true a0_0 a0_1 a0_2 l0_3 l0_4 l0_5 a1_0 a1_1 a1_2 l1_3 l1_4 l1_5 bt247.1 bt247.2.1 bt247.2.2.1 bt247.2.2.2.1 bt247.2.2.2.2.1 bt247.2.2.2.2.2 bt260.1 bt260.2.1 bt260.2.2.1 bt260.2.2.2.1 bt260.2.2.2.2.1 bt260.2.2.2.2.2))) else (laws_FnExactKindChanges.j0 k a2 bt240.1 bt240.2.1 bt240.2.2 bt273.1 bt273.2.1 bt273.2.2 true a0_0 a0_1 a0_2 l0_3 l0_4 l0_5 a1_0 a1_1 a1_2 l1_3 l1_4 l1_5 bt247.1 bt247.2.1 bt247.2.2.1 bt247.2.2.2.1 bt247.2.2.2.2.1 bt247.2.2.2.2.2 bt260.1 bt260.2.1 bt260.2.2.1 bt260.2.2.2.1 bt260.2.2.2.2.1 bt260.2.2.2.2.2))))))))))))
def laws_FnExactKindChanges.T8 : Bool × List (List Nat × List Nat) := (true, [([], []), ([0], [0]), ([], []), ([2, 1], [2]), ([], []), ([1, 3, 4, 3], [1, 3, 4]), ([5], [5]), ([6], [6]), ([6], [6]), ([6], [6]), ([7, 5, 0, 1, 2, 3, 4, 5, 6, 7], [7]), ([8, 10, 0, 1, 2, 3, 4, 5, 6, 7, 8, 10], [8]), ([9, 11, 0, 1, 2, 3, 4, 5, 6, 7, 8, 9, 10, 11], [9])])
def laws_FnExactKindChanges.B8 : List Nat := [0, 1, 0, 7, 0, 31, 63, 127, 127, 127, 255, 1535, 4095]
theorem laws_FnExactKindChanges.tab8 : rtab .any (opsOf Try.f12 8) = laws_FnExactKindChanges.T8 := by kernel_rfl
theorem laws_FnExactKindChanges.bits8 : waitsOk laws_FnExactKindChanges.T8.2 laws_FnExactKindChanges.B8 = true := by kernel_rfl
def laws_FnExactKindChanges.T35 : Bool × List (List Nat × List Nat) := (true, [([], []), ([0], [0]), ([], []), ([2, 1], [2]), ([], []), ([1, 3, 4, 3], [1, 3, 4]), ([5], [5]), ([6], [6]), ([6], [6]), ([6], [6]), ([7, 5, 0, 1, 2, 3, 4, 5, 6, 7], [7]), ([8, 10, 0, 1, 2, 3, 4, 5, 6, 7, 8, 10], [8]), ([9, 11, 0, 1, 2, 3, 4, 5, 6, 7, 8, 9, 10, 11], [9])])
def laws_FnExactKindChanges.B35 : List Nat := [0, 1, 0, 7, 0, 31, 63, 127, 127, 127, 255, 1535, 4095]
theorem laws_FnExactKindChanges.tab35 : rtab .any (opsOf Try.f12 35) = laws_FnExactKindChanges.T35 := by kernel_rfl
theorem laws_FnExactKindChanges.bits35 : waitsOk laws_FnExactKindChanges.T35.2 laws_FnExactKindChanges.B35 = true := by kernel_rfl
set_option maxHeartbeats 8000000 in
set_option maxRecDepth 100000 in
theorem laws_FnExactKindChanges.calls (k : Nat) (a0_0 : Int) (a0_1 : Int) (a0_2 : Int) (A0_3 : Option Addr) (c0_3 : Nat) (l0_3 : List Int) (A0_4 : Option Addr) (c0_4 : Nat) (l0_4 : List Int) (A0_5 : Option Addr) (c0_5 : Nat) (l0_5 : List Int) (a1_0 : Int) (a1_1 : Int) (a1_2 : Int) (A1_3 : Option Addr) (c1_3 : Nat) (l1_3 : List Int) (A1_4 : Option Addr) (c1_4 : Nat) (l1_4 : List Int) (A1_5 : Option Addr) (c1_5 : Nat) (l1_5 : List Int) (a2 : Int) (r : Bool) (w : World) (hr0_3 : Kd.C (Kd.int .i64) w A0_3 l0_3.length l0_3) (hc0_3 : l0_3.length ≤ c0_3) (hr0_4 : Kd.C (Kd.int .i64) w A0_4 l0_4.length l0_4) (hc0_4 : l0_4.length ≤ c0_4) (hr0_5 : Kd.C (Kd.int .i64) w A0_5 l0_5.length l0_5) (hc0_5 : l0_5.length ≤ c0_5) (hr1_3 : Kd.C (Kd.int .i64) w A1_3 l1_3.length l1_3) (hc1_3 : l1_3.length ≤ c1_3) (hr1_4 : Kd.C (Kd.int .i64) w A1_4 l1_4.length l1_4) (hc1_4 : l1_4.length ≤ c1_4) (hr1_5 : Kd.C (Kd.int .i64) w A1_5 l1_5.length l1_5) (hc1_5 : l1_5.length ≤ c1_5) (h : laws_FnExactKindChanges.f k a0_0 a0_1 a0_2 l0_3 l0_4 l0_5 a1_0 a1_1 a1_2 l1_3 l1_4 l1_5 a2 = some r) :
  Calls Try.prog 12 #[.agg #[.int .i64 a0_0, .int .i64 a0_1, .int .i64 a0_2, .slice A0_3 l0_3.length c0_3, .slice A0_4 l0_4.length c0_4, .slice A0_5 l0_5.length c0_5], .agg #[.int .i64 a1_0, .int .i64 a1_1, .int .i64 a1_2, .slice A1_3 l1_3.length c1_3, .slice A1_4 l1_4.length c1_4, .slice A1_5 l1_5.length c1_5], .int .i64 a2] w fun e w' => e = .returned (.bool r) ∧ Below w.heap.size w w' := by
 have hu38 := Try.underlying38
 have hu44 := Try.underlying44
 have HR0_3 := Aside0.mk hr0_3
 have HC0_3 := Aside0.mk hc0_3
 clear hr0_3 hc0_3
 have HR0_4 := Aside0.mk hr0_4
 have HC0_4 := Aside0.mk hc0_4
 clear hr0_4 hc0_4
 have HR0_5 := Aside0.mk hr0_5
 have HC0_5 := Aside0.mk hc0_5
 clear hr0_5 hc0_5
 have HR1_3 := Aside0.mk hr1_3
 have HC1_3 := Aside0.mk hc1_3
 clear hr1_3 hc1_3
 have HR1_4 := Aside0.mk hr1_4
 have HC1_4 := Aside0.mk hc1_4
 clear hr1_4 hc1_4
 have HR1_5 := Aside0.mk hr1_5
 have HC1_5 := Aside0.mk hc1_5
 clear hr1_5 hc1_5
 have HB := Aside0.mk (Below.refl w.heap.size w)
 have H : ((laws_szModel.f a0_0 a0_1 a0_2 l0_3 l0_4 l0_5 1048576).bind fun t214 => (if t214 < 0 then (some true) else ((laws_szModel.f a1_0 a1_1 a1_2 l1_3 l1_4 l1_5 t214).bind fun t215 => (if t215 < 0 then (some true) else ((laws_toModel.f k a0_0 a0_1 a0_2 l0_3 l0_4 l0_5).bind fun bt216 => ((laws_toModel.f k a1_0 a1_1 a1_2 l1_3 l1_4 l1_5).bind fun bt228 => ((spec_KindChanges.f k bt216.1 bt216.2.1 bt216.2.2.1 bt216.2.2.2.1 bt216.2.2.2.2.1 bt216.2.2.2.2.2 bt228.1 bt228.2.1 bt228.2.2.1 bt228.2.2.2.1 bt228.2.2.2.2.1 bt228.2.2.2.2.2 a2).bind fun bt240 => ((laws_toModel.f k a0_0 a0_1 a0_2 l0_3 l0_4 l0_5).bind fun bt247 => ((laws_toModel.f k a1_0 a1_1 a1_2 l1_3 l1_4 l1_5).bind fun bt260 => ((impl_KindChanges.f k bt247.1 bt247.2.1 bt247.2.2.1 bt247.2.2.2.1 bt247.2.2.2.2.1 bt247.2.2.2.2.2 bt260.1 bt260.2.1 bt260.2.2.1 bt260.2.2.2.1 bt260.2.2.2.2.1 bt260.2.2.2.2.2 a2).bind fun bt273 => ((laws_eqIntS.f k bt273.1 bt240.1).bind fun t280 => (if t280 = true then ((laws_eqIntS.f k bt273.2.1 bt240.2.1).bind fun t281 => (if t281 = true then (laws_FnExactKindChanges.j0 k a2 bt240.1 bt240.2.1 bt240.2.2 bt273.1 bt273.2.1 bt273.2.2 (bt273.2.2 != bt240.2.2) a0_0 a0_1 a0_2 l0_3 l0_4 l0_5 a1_0 a1_1 a1_2 l1_3 l1_4 l1_5 bt247.1 bt247.2.1 bt247.2.2.1 bt247.2.2.2.1 bt247.2.2.2.2.1 bt247.2.2.2.2.2 bt260.1 bt260.2.1 bt260.2.2.1 bt260.2.2.2.1 bt260.2.2.2.2.1 bt260.2.2.2.2.2) else (laws_FnExactKindChanges.j0 k a2 bt240.1 bt240.2.1 bt240.2.2 bt273.1 bt273.2.1 bt273.2.2 true a0_0 a0_1 a0_2 l0_3 l0_4 l0_5 a1_0 a1_1 a1_2 l1_3 l1_4 l1_5 bt247.1 bt247.2.1 bt247.2.2.1 bt247.2.2.2.1 bt247.2.2.2.2.1 bt247.2.2.2.2.2 bt260.1 bt260.2.1 bt260.2.2.1 bt260.2.2.2.1 bt260.2.2.2.2.1 bt260.2.2.2.2.2))) else (laws_FnExactKindChanges.j0 k a2 bt240.1 bt240.2.1 bt240.2.2 bt273.1 bt273.2.1 bt273.2.2 true a0_0 a0_1 a0_2 l0_3 l0_4 l0_5 a1_0 a1_1 a1_2 l1_3 l1_4 l1_5 bt247.1 bt247.2.1 bt247.2.2.1 bt247.2.2.2.1 bt247.2.2.2.2.1 bt247.2.2.2.2.2 bt260.1 bt260.2.1 bt260.2.2.1 bt260.2.2.2.1 bt260.2.2.2.2.1 bt260.2.2.2.2.2))))))))))))) = some r := h
 clear h
 replace H := Option.bind_eq_some_iff.mp H
 obtain ⟨t214, A40, H⟩ := H
 have A4 := Aside0.mk A40
 clear A40
 by_cases c5 : t214 < 0
 ·rw [if_pos c5] at H
  have c5b0 : decide (t214 < 0) = true := decide_eq_true c5
  clear c5
  obtain rfl := Option.some.inj H
  go_enter Try.func12, Try.ntmps12
  go_wp2_with (first | ((with_reducible refine gate_dst (N := 3) rfl ?_); refine box_event ?hg (N := 3) ?hd (cs := #[.int .i64 a0_0, .int .i64 a0_1, .int .i64 a0_2, .slice A0_3 l0_3.length c0_3, .slice A0_4 l0_4.length c0_4, .slice A0_5 l0_5.length c0_5]) (t := 38) ?hr ?_; (case hd => rfl); (case hg => rfl); (case hr => first | (go_simp; done) | (go_simp; rfl)); intro gb212 hg w6 hbox hb; have BK212 := Aside0.mk (hbox); have GW212 := Aside0.mk ((by rw [hg]; exact (below_size (be0x7 HB.out)) : w.heap.size ≤ gb212)); have GE212 := Aside0.mk ((by rw [hg]; exact (below_size (be0x7 HB.out)) : w.heap.size ≤ gb212)); replace HB := Aside0.mk (below_step (be0x7 HB.out) hb); clear hb hbox hg) | ((with_reducible refine gate_dst (N := 4) rfl ?_); refine box_event ?hg (N := 4) ?hd (cs := #[.int .i64 a1_0, .int .i64 a1_1, .int .i64 a1_2, .slice A1_3 l1_3.length c1_3, .slice A1_4 l1_4.length c1_4, .slice A1_5 l1_5.length c1_5]) (t := 38) ?hr ?_; (case hd => rfl); (case hg => rfl); (case hr => first | (go_simp; done) | (go_simp; rfl)); intro gb213 hg w7 hbox hb; have BK213 := Aside0.mk (hbox); have GW213 := Aside0.mk ((by rw [hg]; exact (below_size (be1x7 HB.out GE212.out)) : w.heap.size ≤ gb213)); have GE213 := Aside0.mk ((by rw [hg]; exact (below_size (be1x7 HB.out GE212.out)) : w.heap.size ≤ gb213)); replace HB := Aside0.mk (below_step (be1x7 HB.out GE212.out) hb); have NB212_213 := Aside0.mk ((by rw [hg]; exact Nat.ne_of_lt (blk_lt (g := gb212) (o := .cells #[.int .i64 a0_0, .int .i64 a0_1, .int .i64 a0_2, .slice A0_3 l0_3.length c0_3, .slice A0_4 l0_4.length c0_4, .slice A0_5 l0_5.length c0_5] 38 (0, 0)) (rBx7 BK212.out)) : gb212 ≠ gb213)); have NB213_212 := Aside0.mk ((by rw [hg]; exact Nat.ne_of_gt (blk_lt (g := gb212) (o := .cells #[.int .i64 a0_0, .int .i64 a0_1, .int .i64 a0_2, .slice A0_3 l0_3.length c0_3, .slice A0_4 l0_4.length c0_4, .slice A0_5 l0_5.length c0_5] 38 (0, 0)) (rBx7 BK212.out)) : gb213 ≠ gb212)); replace BK212 := Aside0.mk (blk_below (g := gb212) (o := .cells #[.int .i64 a0_0, .int .i64 a0_1, .int .i64 a0_2, .slice A0_3 l0_3.length c0_3, .slice A0_4 l0_4.length c0_4, .slice A0_5 l0_5.length c0_5] 38 (0, 0)) (rBx7 BK212.out) hb); clear hb hbox hg; have hnb8 := NB212_213.out; have hnc8 := NB213_212.out; obtain ⟨hcz9_0, hcz9_1, hcz9_2, hcz9_3, hcz9_4, hcz9_5, hfz9_0, hfz9_1, hfz9_2, hfz9_3, hfz9_4, hfz9_5⟩ := cf6x7 BK212.out) | ((with_reducible refine gate_callee (f := 22) rfl ?_); refine goesL_ (some 24) rfl rfl Try.func22 (by kernel_rfl) rfl #[.agg #[.int .i64 a0_0, .int .i64 a0_1, .int .i64 a0_2, .slice A0_3 l0_3.length c0_3, .slice A0_4 l0_4.length c0_4, .slice A0_5 l0_5.length c0_5], .int .i64 1048576] rfl mpx7 ?_; (with_reducible refine (laws_szModel.calls a0_0 a0_1 a0_2 _ _ l0_3 _ _ l0_4 _ _ l0_5 1048576 t214 _ ?side1 ?side2 ?side3 ?side4 ?side5 ?side6 A4.out).mono ?_); (case side1 => exact rCx7 (Kd.C_below HR0_3.out HB.out)); (case side2 => exact HC0_3.out); (case side3 => exact rCx7 (Kd.C_below HR0_4.out HB.out)); (case side4 => exact HC0_4.out); (case side5 => exact rCx7 (Kd.C_below HR0_5.out HB.out)); (case side6 => exact HC0_5.out); rintro e w10 ⟨rfl, hb⟩; refine ⟨_, rfl, ?_⟩; replace BK212 := Aside0.mk (blk_below (g := gb212) (o := .cells #[.int .i64 a0_0, .int .i64 a0_1, .int .i64 a0_2, .slice A0_3 l0_3.length c0_3, .slice A0_4 l0_4.length c0_4, .slice A0_5 l0_5.length c0_5] 38 (0, 0)) (rBx7 BK212.out) hb); replace BK213 := Aside0.mk (blk_below (g := gb213) (o := .cells #[.int .i64 a1_0, .int .i64 a1_1, .int .i64 a1_2, .slice A1_3 l1_3.length c1_3, .slice A1_4 l1_4.length c1_4, .slice A1_5 l1_5.length c1_5] 38 (0, 0)) (rBx7 BK213.out) hb); replace HB := Aside0.mk (below_step (be2x7 HB.out GE212.out GE213.out) hb); (try clear hb); (try clear hb2); (try clear hk); (try clear hi)))
  go_ret
  exact ⟨by first | rfl | (simp [errW_none, errW_some] <;> rfl) | (simp [*, errW_none, errW_some] <;> rfl), be2x7 HB.out GE212.out GE213.out⟩
 ·rw [if_neg c5] at H
  have c5b0 : decide (t214 < 0) = false := decide_eq_false c5
  clear c5
  replace H := Option.bind_eq_some_iff.mp H
  obtain ⟨t215, A110, H⟩ := H
  have A11 := Aside0.mk A110
  clear A110
  by_cases c12 : t215 < 0
  ·rw [if_pos c12] at H
   have c12b0 : decide (t215 < 0) = true := decide_eq_true c12
   clear c12
   obtain rfl := Option.some.inj H
   go_enter Try.func12, Try.ntmps12
   go_wp2_with (first | ((with_reducible refine gate_dst (N := 3) rfl ?_); refine box_event ?hg (N := 3) ?hd (cs := #[.int .i64 a0_0, .int .i64 a0_1, .int .i64 a0_2, .slice A0_3 l0_3.length c0_3, .slice A0_4 l0_4.length c0_4, .slice A0_5 l0_5.length c0_5]) (t := 38) ?hr ?_; (case hd => rfl); (case hg => rfl); (case hr => first | (go_simp; done) | (go_simp; rfl)); intro gb212 hg w13 hbox hb; have BK212 := Aside0.mk (hbox); have GW212 := Aside0.mk ((by rw [hg]; exact (below_size (be0x7 HB.out)) : w.heap.size ≤ gb212)); have GE212 := Aside0.mk ((by rw [hg]; exact (below_size (be0x7 HB.out)) : w.heap.size ≤ gb212)); replace HB := Aside0.mk (below_step (be0x7 HB.out) hb); clear hb hbox hg) | ((with_reducible refine gate_dst (N := 4) rfl ?_); refine box_event ?hg (N := 4) ?hd (cs := #[.int .i64 a1_0, .int .i64 a1_1, .int .i64 a1_2, .slice A1_3 l1_3.length c1_3, .slice A1_4 l1_4.length c1_4, .slice A1_5 l1_5.length c1_5]) (t := 38) ?hr ?_; (case hd => rfl); (case hg => rfl); (case hr => first | (go_simp; done) | (go_simp; rfl)); intro gb213 hg w14 hbox hb; have BK213 := Aside0.mk (hbox); have GW213 := Aside0.mk ((by rw [hg]; exact (below_size (be1x7 HB.out GE212.out)) : w.heap.size ≤ gb213)); have GE213 := Aside0.mk ((by rw [hg]; exact (below_size (be1x7 HB.out GE212.out)) : w.heap.size ≤ gb213)); replace HB := Aside0.mk (below_step (be1x7 HB.out GE212.out) hb); have NB212_213 := Aside0.mk ((by rw [hg]; exact Nat.ne_of_lt (blk_lt (g := gb212) (o := .cells #[.int .i64 a0_0, .int .i64 a0_1, .int .i64 a0_2, .slice A0_3 l0_3.length c0_3, .slice A0_4 l0_4.length c0_4, .slice A0_5 l0_5.length c0_5] 38 (0, 0)) (rBx7 BK212.out)) : gb212 ≠ gb213)); have NB213_212 := Aside0.mk ((by rw [hg]; exact Nat.ne_of_gt (blk_lt (g := gb212) (o := .cells #[.int .i64 a0_0, .int .i64 a0_1, .int .i64 a0_2, .slice A0_3 l0_3.length c0_3, .slice A0_4 l0_4.length c0_4, .slice A0_5 l0_5.length c0_5] 38 (0, 0)) (rBx7 BK212.out)) : gb213 ≠ gb212)); replace BK212 := Aside0.mk (blk_below (g := gb212) (o := .cells #[.int .i64 a0_0, .int .i64 a0_1, .int .i64 a0_2, .slice A0_3 l0_3.length c0_3, .slice A0_4 l0_4.length c0_4, .slice A0_5 l0_5.length c0_5] 38 (0, 0)) (rBx7 BK212.out) hb); clear hb hbox hg; have hnb15 := NB212_213.out; have hnc15 := NB213_212.out; obtain ⟨hcz16_0, hcz16_1, hcz16_2, hcz16_3, hcz16_4, hcz16_5, hfz16_0, hfz16_1, hfz16_2, hfz16_3, hfz16_4, hfz16_5⟩ := cf6x7 BK212.out) | ((with_reducible refine gate_callee (f := 22) rfl ?_); refine goesL_ (some 24) rfl rfl Try.func22 (by kernel_rfl) rfl #[.agg #[.int .i64 a0_0, .int .i64 a0_1, .int .i64 a0_2, .slice A0_3 l0_3.length c0_3, .slice A0_4 l0_4.length c0_4, .slice A0_5 l0_5.length c0_5], .int .i64 1048576] rfl mpx7 ?_; (with_reducible refine (laws_szModel.calls a0_0 a0_1 a0_2 _ _ l0_3 _ _ l0_4 _ _ l0_5 1048576 t214 _ ?side1 ?side2 ?side3 ?side4 ?side5 ?side6 A4.out).mono ?_); (case side1 => exact rCx7 (Kd.C_below HR0_3.out HB.out)); (case side2 => exact HC0_3.out); (case side3 => exact rCx7 (Kd.C_below HR0_4.out HB.out)); (case side4 => exact HC0_4.out); (case side5 => exact rCx7 (Kd.C_below HR0_5.out HB.out)); (case side6 => exact HC0_5.out); rintro e w17 ⟨rfl, hb⟩; refine ⟨_, rfl, ?_⟩; replace BK212 := Aside0.mk (blk_below (g := gb212) (o := .cells #[.int .i64 a0_0, .int .i64 a0_1, .int .i64 a0_2, .slice A0_3 l0_3.length c0_3, .slice A0_4 l0_4.length c0_4, .slice A0_5 l0_5.length c0_5] 38 (0, 0)) (rBx7 BK212.out) hb); replace BK213 := Aside0.mk (blk_below (g := gb213) (o := .cells #[.int .i64 a1_0, .int .i64 a1_1, .int .i64 a1_2, .slice A1_3 l1_3.length c1_3, .slice A1_4 l1_4.length c1_4, .slice A1_5 l1_5.length c1_5] 38 (0, 0)) (rBx7 BK213.out) hb); replace HB := Aside0.mk (below_step (be2x7 HB.out GE212.out GE213.out) hb); (try clear hb); (try clear hb2); (try clear hk); (try clear hi); obtain ⟨hcz18_0, hcz18_1, hcz18_2, hcz18_3, hcz18_4, hcz18_5, hfz18_0, hfz18_1, hfz18_2, hfz18_3, hfz18_4, hfz18_5⟩ := cf6x7 BK213.out) | ((with_reducible refine gate_callee (f := 22) rfl ?_); refine goesL_ (some 29) rfl rfl Try.func22 (by kernel_rfl) rfl #[.agg #[.int .i64 a1_0, .int .i64 a1_1, .int .i64 a1_2, .slice A1_3 l1_3.length c1_3, .slice A1_4 l1_4.length c1_4, .slice A1_5 l1_5.length c1_5], .int .i64 t214] rfl mpx7 ?_; (with_reducible refine (laws_szModel.calls a1_0 a1_1 a1_2 _ _ l1_3 _ _ l1_4 _ _ l1_5 t214 t215 _ ?side1 ?side2 ?side3 ?side4 ?side5 ?side6 A11.out).mono ?_); (case side1 => exact rCx7 (Kd.C_below HR1_3.out HB.out)); (case side2 => exact HC1_3.out); (case side3 => exact rCx7 (Kd.C_below HR1_4.out HB.out)); (case side4 => exact HC1_4.out); (case side5 => exact rCx7 (Kd.C_below HR1_5.out HB.out)); (case side6 => exact HC1_5.out); rintro e w19 ⟨rfl, hb⟩; refine ⟨_, rfl, ?_⟩; replace BK212 := Aside0.mk (blk_below (g := gb212) (o := .cells #[.int .i64 a0_0, .int .i64 a0_1, .int .i64 a0_2, .slice A0_3 l0_3.length c0_3, .slice A0_4 l0_4.length c0_4, .slice A0_5 l0_5.length c0_5] 38 (0, 0)) (rBx7 BK212.out) hb); replace BK213 := Aside0.mk (blk_below (g := gb213) (o := .cells #[.int .i64 a1_0, .int .i64 a1_1, .int .i64 a1_2, .slice A1_3 l1_3.length c1_3, .slice A1_4 l1_4.length c1_4, .slice A1_5 l1_5.length c1_5] 38 (0, 0)) (rBx7 BK213.out) hb); replace HB := Aside0.mk (below_step (be2x7 HB.out GE212.out GE213.out) hb); (try clear hb); (try clear hb2); (try clear hk); (try clear hi)))
   go_ret
   exact ⟨by first | rfl | (simp [errW_none, errW_some] <;> rfl) | (simp [*, errW_none, errW_some] <;> rfl), be2x7 HB.out GE212.out GE213.out⟩
  ·rw [if_neg c12] at H
   have c12b0 : decide (t215 < 0) = false := decide_eq_false c12
   clear c12
   replace H := Option.bind_eq_some_iff.mp H
   obtain ⟨⟨t216, t217, t218, t219, t222, t225⟩, A200, H⟩ := H
   (try dsimp only at H)
   have A20 := Aside0.mk A200
   clear A200
   replace H := Option.bind_eq_some_iff.mp H
   obtain ⟨⟨t228, t229, t230, t231, t234, t237⟩, A210, H⟩ := H
   (try dsimp only at H)
   have A21 := Aside0.mk A210
   clear A210
   replace H := Option.bind_eq_some_iff.mp H
   obtain ⟨⟨t240, t243, t246⟩, A220, H⟩ := H
   (try dsimp only at H)
   have A22 := Aside0.mk A220
   clear A220
   replace H := Option.bind_eq_some_iff.mp H
   obtain ⟨⟨t247, t248, t249, t250, t253, t256⟩, A230, H⟩ := H
   (try dsimp only at H)
   have A23 := Aside0.mk A230
   clear A230
   replace H := Option.bind_eq_some_iff.mp H
   obtain ⟨⟨t260, t261, t262, t263, t266, t269⟩, A240, H⟩ := H
   (try dsimp only at H)
   have A24 := Aside0.mk A240
   clear A240
   replace H := Option.bind_eq_some_iff.mp H
   obtain ⟨⟨t273, t276, t279⟩, A250, H⟩ := H
   (try dsimp only at H)
   have A25 := Aside0.mk A250
   clear A250
   have HC26 := Aside0.mk H
   clear H
   go_enter Try.func12, Try.ntmps12
   try go_wp2_with (first | ((with_reducible refine gate_dst (N := 3) rfl ?_); refine box_event ?hg (N := 3) ?hd (cs := #[.int .i64 a0_0, .int .i64 a0_1, .int .i64 a0_2, .slice A0_3 l0_3.length c0_3, .slice A0_4 l0_4.length c0_4, .slice A0_5 l0_5.length c0_5]) (t := 38) ?hr ?_; (case hd => rfl); (case hg => rfl); (case hr => first | (go_simp; done) | (go_simp; rfl)); intro gb212 hg w27 hbox hb; have BK212 := Aside0.mk (hbox); have GW212 := Aside0.mk ((by rw [hg]; exact (below_size (be0x7 HB.out)) : w.heap.size ≤ gb212)); have GE212 := Aside0.mk ((by rw [hg]; exact (below_size (be0x7 HB.out)) : w.heap.size ≤ gb212)); replace HB := Aside0.mk (below_step (be0x7 HB.out) hb); clear hb hbox hg) | ((with_reducible refine gate_dst (N := 4) rfl ?_); refine box_event ?hg (N := 4) ?hd (cs := #[.int .i64 a1_0, .int .i64 a1_1, .int .i64 a1_2, .slice A1_3 l1_3.length c1_3, .slice A1_4 l1_4.length c1_4, .slice A1_5 l1_5.length c1_5]) (t := 38) ?hr ?_; (case hd => rfl); (case hg => rfl); (case hr => first | (go_simp; done) | (go_simp; rfl)); intro gb213 hg w28 hbox hb; have BK213 := Aside0.mk (hbox); have GW213 := Aside0.mk ((by rw [hg]; exact (below_size (be1x7 HB.out GE212.out)) : w.heap.size ≤ gb213)); have GE213 := Aside0.mk ((by rw [hg]; exact (below_size (be1x7 HB.out GE212.out)) : w.heap.size ≤ gb213)); replace HB := Aside0.mk (below_step (be1x7 HB.out GE212.out) hb); have NB212_213 := Aside0.mk ((by rw [hg]; exact Nat.ne_of_lt (blk_lt (g := gb212) (o := .cells #[.int .i64 a0_0, .int .i64 a0_1, .int .i64 a0_2, .slice A0_3 l0_3.length c0_3, .slice A0_4 l0_4.length c0_4, .slice A0_5 l0_5.length c0_5] 38 (0, 0)) (rBx7 BK212.out)) : gb212 ≠ gb213)); have NB213_212 := Aside0.mk ((by rw [hg]; exact Nat.ne_of_gt (blk_lt (g := gb212) (o := .cells #[.int .i64 a0_0, .int .i64 a0_1, .int .i64 a0_2, .slice A0_3 l0_3.length c0_3, .slice A0_4 l0_4.length c0_4, .slice A0_5 l0_5.length c0_5] 38 (0, 0)) (rBx7 BK212.out)) : gb213 ≠ gb212)); replace BK212 := Aside0.mk (blk_below (g := gb212) (o := .cells #[.int .i64 a0_0, .int .i64 a0_1, .int .i64 a0_2, .slice A0_3 l0_3.length c0_3, .slice A0_4 l0_4.length c0_4, .slice A0_5 l0_5.length c0_5] 38 (0, 0)) (rBx7 BK212.out) hb); clear hb hbox hg; have hnb29 := NB212_213.out; have hnc29 := NB213_212.out; obtain ⟨hcz30_0, hcz30_1, hcz30_2, hcz30_3, hcz30_4, hcz30_5, hfz30_0, hfz30_1, hfz30_2, hfz30_3, hfz30_4, hfz30_5⟩ := cf6x7 BK212.out) | ((with_reducible refine gate_callee (f := 22) rfl ?_); refine goesL_ (some 24) rfl rfl Try.func22 (by kernel_rfl) rfl #[.agg #[.int .i64 a0_0, .int .i64 a0_1, .int .i64 a0_2, .slice A0_3 l0_3.length c0_3, .slice A0_4 l0_4.length c0_4, .slice A0_5 l0_5.length c0_5], .int .i64 1048576] rfl mpx7 ?_; (with_reducible refine (laws_szModel.calls a0_0 a0_1 a0_2 _ _ l0_3 _ _ l0_4 _ _ l0_5 1048576 t214 _ ?side1 ?side2 ?side3 ?side4 ?side5 ?side6 A4.out).mono ?_); (case side1 => exact rCx7 (Kd.C_below HR0_3.out HB.out)); (case side2 => exact HC0_3.out); (case side3 => exact rCx7 (Kd.C_below HR0_4.out HB.out)); (case side4 => exact HC0_4.out); (case side5 => exact rCx7 (Kd.C_below HR0_5.out HB.out)); (case side6 => exact HC0_5.out); rintro e w31 ⟨rfl, hb⟩; refine ⟨_, rfl, ?_⟩; replace BK212 := Aside0.mk (blk_below (g := gb212) (o := .cells #[.int .i64 a0_0, .int .i64 a0_1, .int .i64 a0_2, .slice A0_3 l0_3.length c0_3, .slice A0_4 l0_4.length c0_4, .slice A0_5 l0_5.length c0_5] 38 (0, 0)) (rBx7 BK212.out) hb); replace BK213 := Aside0.mk (blk_below (g := gb213) (o := .cells #[.int .i64 a1_0, .int .i64 a1_1, .int .i64 a1_2, .slice A1_3 l1_3.length c1_3, .slice A1_4 l1_4.length c1_4, .slice A1_5 l1_5.length c1_5] 38 (0, 0)) (rBx7 BK213.out) hb); replace HB := Aside0.mk (below_step (be2x7 HB.out GE212.out GE213.out) hb); (try clear hb); (try clear hb2); (try clear hk); (try clear hi); obtain ⟨hcz32_0, hcz32_1, hcz32_2, hcz32_3, hcz32_4, hcz32_5, hfz32_0, hfz32_1, hfz32_2, hfz32_3, hfz32_4, hfz32_5⟩ := cf6x7 BK213.out) | ((with_reducible refine gate_callee (f := 22) rfl ?_); refine goesL_ (some 29) rfl rfl Try.func22 (by kernel_rfl) rfl #[.agg #[.int .i64 a1_0, .int .i64 a1_1, .int .i64 a1_2, .slice A1_3 l1_3.length c1_3, .slice A1_4 l1_4.length c1_4, .slice A1_5 l1_5.length c1_5], .int .i64 t214] rfl mpx7 ?_; (with_reducible refine (laws_szModel.calls a1_0 a1_1 a1_2 _ _ l1_3 _ _ l1_4 _ _ l1_5 t214 t215 _ ?side1 ?side2 ?side3 ?side4 ?side5 ?side6 A11.out).mono ?_); (case side1 => exact rCx7 (Kd.C_below HR1_3.out HB.out)); (case side2 => exact HC1_3.out); (case side3 => exact rCx7 (Kd.C_below HR1_4.out HB.out)); (case side4 => exact HC1_4.out); (case side5 => exact rCx7 (Kd.C_below HR1_5.out HB.out)); (case side6 => exact HC1_5.out); rintro e w33 ⟨rfl, hb⟩; refine ⟨_, rfl, ?_⟩; replace BK212 := Aside0.mk (blk_below (g := gb212) (o := .cells #[.int .i64 a0_0, .int .i64 a0_1, .int .i64 a0_2, .slice A0_3 l0_3.length c0_3, .slice A0_4 l0_4.length c0_4, .slice A0_5 l0_5.length c0_5] 38 (0, 0)) (rBx7 BK212.out) hb); replace BK213 := Aside0.mk (blk_below (g := gb213) (o := .cells #[.int .i64 a1_0, .int .i64 a1_1, .int .i64 a1_2, .slice A1_3 l1_3.length c1_3, .slice A1_4 l1_4.length c1_4, .slice A1_5 l1_5.length c1_5] 38 (0, 0)) (rBx7 BK213.out) hb); replace HB := Aside0.mk (below_step (be2x7 HB.out GE212.out GE213.out) hb); (try clear hb); (try clear hb2); (try clear hk); (try clear hi)))
   have n0_ := Aside0.mk (blk_drew BK212.out)
   have n1_ := Aside0.mk (blk_drew BK213.out)
   have n2_ := Aside0.mk (below_drew1 HB.out)
   clear BK212
   clear BK213
   clear HB
   have BK212 := n0_
   have BK213 := n1_
   have HB := n2_
   clear n0_ n1_ n2_
   refine start_ (n := 13) (S := fun w' => w'.cell? ⟨gb212, 0, none⟩ = some (.int .i64 a0_0) ∧ w'.cell? ⟨gb212, 1, none⟩ = some (.int .i64 a0_1) ∧ w'.cell? ⟨gb212, 2, none⟩ = some (.int .i64 a0_2) ∧ w'.cell? ⟨gb212, 3, none⟩ = some (.slice A0_3 l0_3.length c0_3) ∧ w'.cell? ⟨gb212, 4, none⟩ = some (.slice A0_4 l0_4.length c0_4) ∧ w'.cell? ⟨gb212, 5, none⟩ = some (.slice A0_5 l0_5.length c0_5) ∧ w'.cell? ⟨gb213, 0, none⟩ = some (.int .i64 a1_0) ∧ w'.cell? ⟨gb213, 1, none⟩ = some (.int .i64 a1_1) ∧ w'.cell? ⟨gb213, 2, none⟩ = some (.int .i64 a1_2) ∧ w'.cell? ⟨gb213, 3, none⟩ = some (.slice A1_3 l1_3.length c1_3) ∧ w'.cell? ⟨gb213, 4, none⟩ = some (.slice A1_4 l1_4.length c1_4) ∧ w'.cell? ⟨gb213, 5, none⟩ = some (.slice A1_5 l1_5.length c1_5)) (ds := []) #[false, false, false, false, false, false, false, false, false, false, false, false, false] (by kernel_rfl) rfl rfl (ca6x7 BK212.out (cc6x7 BK213.out)) (fun hHeld => ?_); refine with_tabW laws_FnExactKindChanges.tab8 laws_FnExactKindChanges.bits8 (fun HT_ HW_ => ?_)
   generalize w33.drew = w34 at BK212 BK213 HB hHeld ⊢
   refine pure_ (i := 4) (N := some 37) (v := ?_) (a' := ?_) #[false, false, false, false, true, false, false, false, false, false, false, false, false] rfl rfl (any_of HT_.out (by kernel_rfl)) (fun _ _ _ h => h) (Or.inl ⟨by rfl, ?_⟩) ?_ ?_
   rotate_left
   ·intro w'
    go_simp
    with_reducible rfl
   rotate_left
   ·simp only [Act.put, List.setIfInBounds_toArray, List.set_cons_zero, List.set_cons_succ, i64_w, i32_w]
    rfl
   refine take_ (i := 0) (N := some 33) (v := ?_) (a' := ?_) #[true, false, false, false, true, false, false, false, false, false, false, false, false] rfl rfl (take_ofW HT_.out HW_.out (by kernel_rfl)) (fun _ _ _ h => h) (Or.inl ⟨by rfl, ?_⟩) hHeld ?_ ?_
   rotate_left
   ·rintro w' ⟨s0, s1, s2, s3, s4, s5, s6, s7, s8, s9, s10, s11⟩
    go_simp
    with_reducible rfl
   rotate_left
   ·simp only [Act.put, List.setIfInBounds_toArray, List.set_cons_zero, List.set_cons_succ, i64_w, i32_w]
    rfl
   refine take_ (i := 2) (N := some 35) (v := ?_) (a' := ?_) #[true, false, true, false, true, false, false, false, false, false, false, false, false] rfl rfl (take_ofW HT_.out HW_.out (by kernel_rfl)) (fun _ _ _ h => h) (Or.inl ⟨by rfl, ?_⟩) hHeld ?_ ?_
   rotate_left
   ·rintro w' ⟨s0, s1, s2, s3, s4, s5, s6, s7, s8, s9, s10, s11⟩
    go_simp
    with_reducible rfl
   rotate_left
   ·simp only [Act.put, List.setIfInBounds_toArray, List.set_cons_zero, List.set_cons_succ, i64_w, i32_w]
    rfl
   refine one_ (i := 1) (N := some 34) #[true, true, true, false, true, false, false, false, false, false, false, false, false] rfl rfl (one_of HT_.out (by kernel_rfl)) (by decide) (fun K hK => ?_)
   refine goes_ Try.func24 (by kernel_rfl) rfl #[.agg #[.int .i64 a0_0, .int .i64 a0_1, .int .i64 a0_2, .slice A0_3 l0_3.length c0_3, .slice A0_4 l0_4.length c0_4, .slice A0_5 l0_5.length c0_5]] (by rfl) rfl rfl mpx7 ?_
   with_reducible refine (laws_toModel.calls k a0_0 a0_1 a0_2 _ _ l0_3 _ _ l0_4 _ _ l0_5 t216 t217 t218 t219 t222 t225 _ ?side1 ?side2 ?side3 ?side4 ?side5 ?side6 A20.out).mono ?_
   (case side1 => exact rCx7 (Kd.C_below HR0_3.out HB.out))
   (case side2 => exact HC0_3.out)
   (case side3 => exact rCx7 (Kd.C_below HR0_4.out HB.out))
   (case side4 => exact HC0_4.out)
   (case side5 => exact rCx7 (Kd.C_below HR0_5.out HB.out))
   (case side6 => exact HC0_5.out)
   rintro e w35 ⟨v220, v223, v226, rfl, ho0, ho1, ho2, hb⟩
   refine ⟨_, rfl, ?_⟩
   have n0_ := Aside0.mk (Kd.R_lower ho0 (below_size (be2x7 HB.out GE212.out GE213.out)))
   have n1_ := Aside0.mk (Kd.R_lower ho1 (below_size (be2x7 HB.out GE212.out GE213.out)))
   have n2_ := Aside0.mk (Kd.R_lower ho2 (below_size (be2x7 HB.out GE212.out GE213.out)))
   have n3_ := Aside0.mk (blk_below (g := gb212) (o := .cells #[.int .i64 a0_0, .int .i64 a0_1, .int .i64 a0_2, .slice A0_3 l0_3.length c0_3, .slice A0_4 l0_4.length c0_4, .slice A0_5 l0_5.length c0_5] 38 (0, 0)) (rBx7 BK212.out) hb)
   have n4_ := Aside0.mk (blk_below (g := gb213) (o := .cells #[.int .i64 a1_0, .int .i64 a1_1, .int .i64 a1_2, .slice A1_3 l1_3.length c1_3, .slice A1_4 l1_4.length c1_4, .slice A1_5 l1_5.length c1_5] 38 (0, 0)) (rBx7 BK213.out) hb)
   have n5_ := Aside0.mk (below_step (be2x7 HB.out GE212.out GE213.out) hb)
   clear BK212
   clear BK213
   clear HB
   have HO221 := n0_
   have HO224 := n1_
   have HO227 := n2_
   have BK212 := n3_
   have BK213 := n4_
   have HB := n5_
   clear n0_ n1_ n2_ n3_ n4_ n5_
   (try clear hb)
   (try clear hb2)
   (try clear hk)
   (try clear hi)
   (try clear ho0)
   (try clear ho1)
   (try clear ho2)
   refine hK.out _ _ (ca6x7 BK212.out (cc6x7 BK213.out)) (fun hHeld => ?_)
   clear hK K
   refine norm_ (a' := ?_) ?_ ?_
   rotate_left
   ·show Act.put _ (some 34) _ = _
    simp only [Act.put, List.setIfInBounds_toArray, List.set_cons_zero, List.set_cons_succ, i64_w, i32_w]
    rfl
   refine one_ (i := 3) (N := some 36) #[true, true, true, true, true, false, false, false, false, false, false, false, false] rfl rfl (one_of HT_.out (by kernel_rfl)) (by decide) (fun K hK => ?_)
   refine goes_ Try.func24 (by kernel_rfl) rfl #[.agg #[.int .i64 a1_0, .int .i64 a1_1, .int .i64 a1_2, .slice A1_3 l1_3.length c1_3, .slice A1_4 l1_4.length c1_4, .slice A1_5 l1_5.length c1_5]] (by rfl) rfl rfl mpx7 ?_
   with_reducible refine (laws_toModel.calls k a1_0 a1_1 a1_2 _ _ l1_3 _ _ l1_4 _ _ l1_5 t228 t229 t230 t231 t234 t237 _ ?side1 ?side2 ?side3 ?side4 ?side5 ?side6 A21.out).mono ?_
   (case side1 => exact rCx7 (Kd.C_below HR1_3.out HB.out))
   (case side2 => exact HC1_3.out)
   (case side3 => exact rCx7 (Kd.C_below HR1_4.out HB.out))
   (case side4 => exact HC1_4.out)
   (case side5 => exact rCx7 (Kd.C_below HR1_5.out HB.out))
   (case side6 => exact HC1_5.out)
   rintro e w36 ⟨v232, v235, v238, rfl, ho0, ho1, ho2, hb⟩
   refine ⟨_, rfl, ?_⟩
   have n0_ := Aside0.mk (kp3x7 (rRx7 HO221.out) hb ho0 ho1 ho2)
   have n1_ := Aside0.mk (kp3x7 (rRx7 HO224.out) hb ho0 ho1 ho2)
   have n2_ := Aside0.mk (kp3x7 (rRx7 HO227.out) hb ho0 ho1 ho2)
   have n3_ := Aside0.mk (Kd.R_lower (nwx7 (nwx7 (nwx7 ho0 (rRx7 HO221.out)) (rRx7 HO224.out)) (rRx7 HO227.out)) (below_size (be2x7 HB.out GE212.out GE213.out)))
   have n4_ := Aside0.mk (Kd.R_lower (nwx7 (nwx7 (nwx7 ho1 (rRx7 HO221.out)) (rRx7 HO224.out)) (rRx7 HO227.out)) (below_size (be2x7 HB.out GE212.out GE213.out)))
   have n5_ := Aside0.mk (Kd.R_lower (nwx7 (nwx7 (nwx7 ho2 (rRx7 HO221.out)) (rRx7 HO224.out)) (rRx7 HO227.out)) (below_size (be2x7 HB.out GE212.out GE213.out)))
   have n6_ := Aside0.mk (blk_below (g := gb212) (o := .cells #[.int .i64 a0_0, .int .i64 a0_1, .int .i64 a0_2, .slice A0_3 l0_3.length c0_3, .slice A0_4 l0_4.length c0_4, .slice A0_5 l0_5.length c0_5] 38 (0, 0)) (rBx7 BK212.out) hb)
   have n7_ := Aside0.mk (blk_below (g := gb213) (o := .cells #[.int .i64 a1_0, .int .i64 a1_1, .int .i64 a1_2, .slice A1_3 l1_3.length c1_3, .slice A1_4 l1_4.length c1_4, .slice A1_5 l1_5.length c1_5] 38 (0, 0)) (rBx7 BK213.out) hb)
   have n8_ := Aside0.mk (below_step (be2x7 HB.out GE212.out GE213.out) hb)
   clear HO221
   clear HO224
   clear HO227
   clear BK212
   clear BK213
   clear HB
   have HO221 := n0_
   have HO224 := n1_
   have HO227 := n2_
   have HO233 := n3_
   have HO236 := n4_
   have HO239 := n5_
   have BK212 := n6_
   have BK213 := n7_
   have HB := n8_
   clear n0_ n1_ n2_ n3_ n4_ n5_ n6_ n7_ n8_
   (try clear hb)
   (try clear hb2)
   (try clear hk)
   (try clear hi)
   (try clear ho0)
   (try clear ho1)
   (try clear ho2)
   obtain ⟨Ao37, co37, eo37⟩ := Kd.R_slice HO221.out
   (first | subst eo37 | (injection eo37 with f1_ f2_ f3_; have f4_ := f1_.symm; have f5_ := f3_.symm; clear f1_ f2_ f3_; subst f4_; subst f5_))
   obtain ⟨Ao38, co38, eo38⟩ := Kd.R_slice HO224.out
   (first | subst eo38 | (injection eo38 with f1_ f2_ f3_; have f4_ := f1_.symm; have f5_ := f3_.symm; clear f1_ f2_ f3_; subst f4_; subst f5_))
   obtain ⟨Ao39, co39, eo39⟩ := Kd.R_slice HO227.out
   (first | subst eo39 | (injection eo39 with f1_ f2_ f3_; have f4_ := f1_.symm; have f5_ := f3_.symm; clear f1_ f2_ f3_; subst f4_; subst f5_))
   obtain ⟨Ao40, co40, eo40⟩ := Kd.R_slice HO233.out
   (first | subst eo40 | (injection eo40 with f1_ f2_ f3_; have f4_ := f1_.symm; have f5_ := f3_.symm; clear f1_ f2_ f3_; subst f4_; subst f5_))
   obtain ⟨Ao41, co41, eo41⟩ := Kd.R_slice HO236.out
   (first | subst eo41 | (injection eo41 with f1_ f2_ f3_; have f4_ := f1_.symm; have f5_ := f3_.symm; clear f1_ f2_ f3_; subst f4_; subst f5_))
   obtain ⟨Ao42, co42, eo42⟩ := Kd.R_slice HO239.out
   (first | subst eo42 | (injection eo42 with f1_ f2_ f3_; have f4_ := f1_.symm; have f5_ := f3_.symm; clear f1_ f2_ f3_; subst f4_; subst f5_))
   refine hK.out _ _ (ca6x7 BK212.out (cc6x7 BK213.out)) (fun hHeld => ?_)
   clear hK K
   refine norm_ (a' := ?_) ?_ ?_
   rotate_left
   ·show Act.put _ (some 36) _ = _
    simp only [Act.put, List.setIfInBounds_toArray, List.set_cons_zero, List.set_cons_succ, i64_w, i32_w]
    rfl
   refine one_ (i := 5) (N := some 38) #[true, true, true, true, true, true, false, false, false, false, false, false, false] rfl rfl (one_of HT_.out (by kernel_rfl)) (by decide) (fun K hK => ?_)
   refine goes_ Try.func57 (by kernel_rfl) rfl #[.agg #[.int .i64 t216, .int .i64 t217, .int .i64 t218, .slice Ao37 t219.length co37, .slice Ao38 t222.length co38, .slice Ao39 t225.length co39], .agg #[.int .i64 t228, .int .i64 t229, .int .i64 t230, .slice Ao40 t231.length co40, .slice Ao41 t234.length co41, .slice Ao42 t237.length co42], .int .i64 a2] (by rfl) rfl rfl mpx7 ?_
   with_reducible refine (spec_KindChanges.calls k t216 t217 t218 _ _ t219 _ _ t222 _ _ t225 t228 t229 t230 _ _ t231 _ _ t234 _ _ t237 a2 t240 t243 t246 _ ?side1 ?side2 ?side3 ?side4 ?side5 ?side6 ?side7 ?side8 ?side9 ?side10 ?side11 ?side12 A22.out).mono ?_
   (case side1 => exact cRx7 HO221.out)
   (case side2 => exact (Kd.R_reads' HO221.out).2.1)
   (case side3 => exact cRx7 HO224.out)
   (case side4 => exact (Kd.R_reads' HO224.out).2.1)
   (case side5 => exact cRx7 HO227.out)
   (case side6 => exact (Kd.R_reads' HO227.out).2.1)
   (case side7 => exact cRx7 HO233.out)
   (case side8 => exact (Kd.R_reads' HO233.out).2.1)
   (case side9 => exact cRx7 HO236.out)
   (case side10 => exact (Kd.R_reads' HO236.out).2.1)
   (case side11 => exact cRx7 HO239.out)
   (case side12 => exact (Kd.R_reads' HO239.out).2.1)
   rintro e w43 ⟨v241, v244, rfl, ho0, ho1, hb⟩
   refine ⟨_, rfl, ?_⟩
   have n0_ := Aside0.mk (kp2x7 (rRx7 HO221.out) hb ho0 ho1)
   have n1_ := Aside0.mk (kp2x7 (rRx7 HO224.out) hb ho0 ho1)
   have n2_ := Aside0.mk (kp2x7 (rRx7 HO227.out) hb ho0 ho1)
   have n3_ := Aside0.mk (kp2x7 (rRx7 HO233.out) hb ho0 ho1)
   have n4_ := Aside0.mk (kp2x7 (rRx7 HO236.out) hb ho0 ho1)
   have n5_ := Aside0.mk (kp2x7 (rRx7 HO239.out) hb ho0 ho1)
   have n6_ := Aside0.mk (Kd.R_lower (nwx7 (nwx7 (nwx7 (nwx7 (nwx7 (nwx7 ho0 (rRx7 HO221.out)) (rRx7 HO224.out)) (rRx7 HO227.out)) (rRx7 HO233.out)) (rRx7 HO236.out)) (rRx7 HO239.out)) (below_size (be2x7 HB.out GE212.out GE213.out)))
   have n7_ := Aside0.mk (Kd.R_lower (nwx7 (nwx7 (nwx7 (nwx7 (nwx7 (nwx7 ho1 (rRx7 HO221.out)) (rRx7 HO224.out)) (rRx7 HO227.out)) (rRx7 HO233.out)) (rRx7 HO236.out)) (rRx7 HO239.out)) (below_size (be2x7 HB.out GE212.out GE213.out)))
   have n8_ := Aside0.mk (blk_below (g := gb212) (o := .cells #[.int .i64 a0_0, .int .i64 a0_1, .int .i64 a0_2, .slice A0_3 l0_3.length c0_3, .slice A0_4 l0_4.length c0_4, .slice A0_5 l0_5.length c0_5] 38 (0, 0)) (rBx7 BK212.out) hb)
   have n9_ := Aside0.mk (blk_below (g := gb213) (o := .cells #[.int .i64 a1_0, .int .i64 a1_1, .int .i64 a1_2, .slice A1_3 l1_3.length c1_3, .slice A1_4 l1_4.length c1_4, .slice A1_5 l1_5.length c1_5] 38 (0, 0)) (rBx7 BK213.out) hb)
   have n10_ := Aside0.mk (below_step (be2x7 HB.out GE212.out GE213.out) hb)
   clear HO221
   clear HO224
   clear HO227
   clear HO233
   clear HO236
   clear HO239
   clear BK212
   clear BK213
   clear HB
   have HO221 := n0_
   have HO224 := n1_
   have HO227 := n2_
   have HO233 := n3_
   have HO236 := n4_
   have HO239 := n5_
   have HO242 := n6_
   have HO245 := n7_
   have BK212 := n8_
   have BK213 := n9_
   have HB := n10_
   clear n0_ n1_ n2_ n3_ n4_ n5_ n6_ n7_ n8_ n9_ n10_
   (try clear hb)
   (try clear hb2)
   (try clear hk)
   (try clear hi)
   (try clear ho0)
   (try clear ho1)
   refine hK.out _ _ (ca6x7 BK212.out (cc6x7 BK213.out)) (fun hHeld => ?_)
   clear hK K
   refine norm_ (a' := ?_) ?_ ?_
   rotate_left
   ·show Act.put _ (some 38) _ = _
    simp only [Act.put, List.setIfInBounds_toArray, List.set_cons_zero, List.set_cons_succ, i64_w, i32_w]
    rfl
   refine pure_ (i := 6) (N := some 32) (v := ?_) (a' := ?_) #[true, true, true, true, true, true, true, false, false, false, false, false, false] rfl rfl (any_of HT_.out (by kernel_rfl)) (fun _ _ _ h => h) (Or.inl ⟨by rfl, ?_⟩) ?_ ?_
   rotate_left
   ·intro w'
    go_simp
    with_reducible rfl
   rotate_left
   ·simp only [Act.put, List.setIfInBounds_toArray, List.set_cons_zero, List.set_cons_succ, i64_w, i32_w]
    rfl
   refine pure_ (i := 7) (N := some 39) (v := ?_) (a' := ?_) #[true, true, true, true, true, true, true, true, false, false, false, false, false] rfl rfl (any_of HT_.out (by kernel_rfl)) (fun _ _ _ h => h) (Or.inl ⟨by rfl, ?_⟩) ?_ ?_
   rotate_left
   ·intro w'
    go_simp
    with_reducible rfl
   rotate_left
   ·simp only [Act.put, List.setIfInBounds_toArray, List.set_cons_zero, List.set_cons_succ, i64_w, i32_w]
    rfl
   refine pure_ (i := 8) (N := some 40) (v := ?_) (a' := ?_) #[true, true, true, true, true, true, true, true, true, false, false, false, false] rfl rfl (any_of HT_.out (by kernel_rfl)) (fun _ _ _ h => h) (Or.inl ⟨by rfl, ?_⟩) ?_ ?_
   rotate_left
   ·intro w'
    go_simp
    with_reducible rfl
   rotate_left
   ·simp only [Act.put, List.setIfInBounds_toArray, List.set_cons_zero, List.set_cons_succ, i64_w, i32_w]
    rfl
   refine pure_ (i := 9) (N := some 41) (v := ?_) (a' := ?_) #[true, true, true, true, true, true, true, true, true, true, false, false, false] rfl rfl (any_of HT_.out (by kernel_rfl)) (fun _ _ _ h => h) (Or.inl ⟨by rfl, ?_⟩) ?_ ?_
   rotate_left
   ·intro w'
    go_simp
    with_reducible rfl
   rotate_left
   ·simp only [Act.put, List.setIfInBounds_toArray, List.set_cons_zero, List.set_cons_succ, i64_w, i32_w]
    rfl
   refine pure_ (i := 10) (N := some 8) (v := ?_) (a' := ?_) #[true, true, true, true, true, true, true, true, true, true, true, false, false] rfl rfl (any_of HT_.out (by kernel_rfl)) (fun _ _ _ h => h) (Or.inl ⟨by rfl, ?_⟩) ?_ ?_
   rotate_left
   ·intro w'
    go_simp
    with_reducible rfl
   rotate_left
   ·simp only [Act.put, List.setIfInBounds_toArray, List.set_cons_zero, List.set_cons_succ, i64_w, i32_w]
    rfl
   refine pure_ (i := 11) (N := some 9) (v := ?_) (a' := ?_) #[true, true, true, true, true, true, true, true, true, true, true, true, false] rfl rfl (any_of HT_.out (by kernel_rfl)) (fun _ _ _ h => h) (Or.inl ⟨by rfl, ?_⟩) ?_ ?_
   rotate_left
   ·intro w'
    go_simp
    with_reducible rfl
   rotate_left
   ·simp only [Act.put, List.setIfInBounds_toArray, List.set_cons_zero, List.set_cons_succ, i64_w, i32_w]
    rfl
   refine pure_ (i := 12) (N := some 10) (v := ?_) (a' := ?_) #[true, true, true, true, true, true, true, true, true, true, true, true, true] rfl rfl (any_of HT_.out (by kernel_rfl)) (fun _ _ _ h => h) (Or.inl ⟨by rfl, ?_⟩) ?_ ?_
   rotate_left
   ·intro w'
    go_simp
    with_reducible rfl
   rotate_left
   ·simp only [Act.put, List.setIfInBounds_toArray, List.set_cons_zero, List.set_cons_succ, i64_w, i32_w]
    rfl
   refine done_ (done_of HT_.out (by kernel_rfl)) ?_
   obtain ⟨hcz44_0, hcz44_1, hcz44_2, hcz44_3, hcz44_4, hcz44_5, hfz44_0, hfz44_1, hfz44_2, hfz44_3, hfz44_4, hfz44_5⟩ := cf6x7 BK212.out
   go_upto_region 12 with (first | ((with_reducible refine gate_callee (f := 24) rfl ?_); refine goesL_ (some 43) rfl rfl Try.func24 (by kernel_rfl) rfl #[.agg #[.int .i64 a0_0, .int .i64 a0_1, .int .i64 a0_2, .slice A0_3 l0_3.length c0_3, .slice A0_4 l0_4.length c0_4, .slice A0_5 l0_5.length c0_5]] rfl mpx7 ?_; (with_reducible refine (laws_toModel.calls k a0_0 a0_1 a0_2 _ _ l0_3 _ _ l0_4 _ _ l0_5 t247 t248 t249 t250 t253 t256 _ ?side1 ?side2 ?side3 ?side4 ?side5 ?side6 A23.out).mono ?_); (case side1 => exact rCx7 (Kd.C_below HR0_3.out HB.out)); (case side2 => exact HC0_3.out); (case side3 => exact rCx7 (Kd.C_below HR0_4.out HB.out)); (case side4 => exact HC0_4.out); (case side5 => exact rCx7 (Kd.C_below HR0_5.out HB.out)); (case side6 => exact HC0_5.out); rintro e w45 ⟨v251, v254, v257, rfl, ho0, ho1, ho2, hb⟩; refine ⟨_, rfl, ?_⟩; have HO252 := Aside0.mk (Kd.R_lower (nwx7 (nwx7 (nwx7 (nwx7 (nwx7 (nwx7 (nwx7 (nwx7 ho0 (rRx7 HO221.out)) (rRx7 HO224.out)) (rRx7 HO227.out)) (rRx7 HO233.out)) (rRx7 HO236.out)) (rRx7 HO239.out)) (rRx7 HO242.out)) (rRx7 HO245.out)) (below_size (be2x7 HB.out GE212.out GE213.out))); have HO255 := Aside0.mk (Kd.R_lower (nwx7 (nwx7 (nwx7 (nwx7 (nwx7 (nwx7 (nwx7 (nwx7 ho1 (rRx7 HO221.out)) (rRx7 HO224.out)) (rRx7 HO227.out)) (rRx7 HO233.out)) (rRx7 HO236.out)) (rRx7 HO239.out)) (rRx7 HO242.out)) (rRx7 HO245.out)) (below_size (be2x7 HB.out GE212.out GE213.out))); have HO258 := Aside0.mk (Kd.R_lower (nwx7 (nwx7 (nwx7 (nwx7 (nwx7 (nwx7 (nwx7 (nwx7 ho2 (rRx7 HO221.out)) (rRx7 HO224.out)) (rRx7 HO227.out)) (rRx7 HO233.out)) (rRx7 HO236.out)) (rRx7 HO239.out)) (rRx7 HO242.out)) (rRx7 HO245.out)) (below_size (be2x7 HB.out GE212.out GE213.out))); replace HO221 := Aside0.mk (kp3x7 (rRx7 HO221.out) hb ho0 ho1 ho2); replace HO224 := Aside0.mk (kp3x7 (rRx7 HO224.out) hb ho0 ho1 ho2); replace HO227 := Aside0.mk (kp3x7 (rRx7 HO227.out) hb ho0 ho1 ho2); replace HO233 := Aside0.mk (kp3x7 (rRx7 HO233.out) hb ho0 ho1 ho2); replace HO236 := Aside0.mk (kp3x7 (rRx7 HO236.out) hb ho0 ho1 ho2); replace HO239 := Aside0.mk (kp3x7 (rRx7 HO239.out) hb ho0 ho1 ho2); replace HO242 := Aside0.mk (kp3x7 (rRx7 HO242.out) hb ho0 ho1 ho2); replace HO245 := Aside0.mk (kp3x7 (rRx7 HO245.out) hb ho0 ho1 ho2); replace BK212 := Aside0.mk (blk_below (g := gb212) (o := .cells #[.int .i64 a0_0, .int .i64 a0_1, .int .i64 a0_2, .slice A0_3 l0_3.length c0_3, .slice A0_4 l0_4.length c0_4, .slice A0_5 l0_5.length c0_5] 38 (0, 0)) (rBx7 BK212.out) hb); replace BK213 := Aside0.mk (blk_below (g := gb213) (o := .cells #[.int .i64 a1_0, .int .i64 a1_1, .int .i64 a1_2, .slice A1_3 l1_3.length c1_3, .slice A1_4 l1_4.length c1_4, .slice A1_5 l1_5.length c1_5] 38 (0, 0)) (rBx7 BK213.out) hb); replace HB := Aside0.mk (below_step (be2x7 HB.out GE212.out GE213.out) hb); (try clear hb); (try clear hb2); (try clear hk); (try clear hi); (try clear ho0); (try clear ho1); (try clear ho2)) | ((with_reducible refine gate_dst (N := 11) rfl ?_); refine box_event ?hg (N := 11) ?hd (cs := #[.int .i64 0, .int .i64 0, .int .i64 0, .slice none 0 0, .slice none 0 0, .slice none 0 0]) (t := 44) ?hr ?_; (case hd => rfl); (case hg => rfl); (case hr => first | (go_simp; done) | (go_simp; rfl)); intro gb259 hg w46 hbox hb; replace HO221 := Aside0.mk (Kd.R_below (rRx7 HO221.out) hb); replace HO224 := Aside0.mk (Kd.R_below (rRx7 HO224.out) hb); replace HO227 := Aside0.mk (Kd.R_below (rRx7 HO227.out) hb); replace HO233 := Aside0.mk (Kd.R_below (rRx7 HO233.out) hb); replace HO236 := Aside0.mk (Kd.R_below (rRx7 HO236.out) hb); replace HO239 := Aside0.mk (Kd.R_below (rRx7 HO239.out) hb); replace HO242 := Aside0.mk (Kd.R_below (rRx7 HO242.out) hb); replace HO245 := Aside0.mk (Kd.R_below (rRx7 HO245.out) hb); replace HO252 := Aside0.mk (Kd.R_below (rRx7 HO252.out) hb); replace HO255 := Aside0.mk (Kd.R_below (rRx7 HO255.out) hb); replace HO258 := Aside0.mk (Kd.R_below (rRx7 HO258.out) hb); have BK259 := Aside0.mk (hbox); have GW259 := Aside0.mk ((by rw [hg]; exact (below_size (be2x7 HB.out GE212.out GE213.out)) : w.heap.size ≤ gb259)); have GE259 := Aside0.mk ((by rw [hg]; exact (below_size (be2x7 HB.out GE212.out GE213.out)) : w.heap.size ≤ gb259)); replace HB := Aside0.mk (below_step (be2x7 HB.out GE212.out GE213.out) hb); have NB212_259 := Aside0.mk ((by rw [hg]; exact Nat.ne_of_lt (blk_lt (g := gb212) (o := .cells #[.int .i64 a0_0, .int .i64 a0_1, .int .i64 a0_2, .slice A0_3 l0_3.length c0_3, .slice A0_4 l0_4.length c0_4, .slice A0_5 l0_5.length c0_5] 38 (0, 0)) (rBx7 BK212.out)) : gb212 ≠ gb259)); have NB259_212 := Aside0.mk ((by rw [hg]; exact Nat.ne_of_gt (blk_lt (g := gb212) (o := .cells #[.int .i64 a0_0, .int .i64 a0_1, .int .i64 a0_2, .slice A0_3 l0_3.length c0_3, .slice A0_4 l0_4.length c0_4, .slice A0_5 l0_5.length c0_5] 38 (0, 0)) (rBx7 BK212.out)) : gb259 ≠ gb212)); replace BK212 := Aside0.mk (blk_below (g := gb212) (o := .cells #[.int .i64 a0_0, .int .i64 a0_1, .int .i64 a0_2, .slice A0_3 l0_3.length c0_3, .slice A0_4 l0_4.length c0_4, .slice A0_5 l0_5.length c0_5] 38 (0, 0)) (rBx7 BK212.out) hb); have NB213_259 := Aside0.mk ((by rw [hg]; exact Nat.ne_of_lt (blk_lt (g := gb213) (o := .cells #[.int .i64 a1_0, .int .i64 a1_1, .int .i64 a1_2, .slice A1_3 l1_3.length c1_3, .slice A1_4 l1_4.length c1_4, .slice A1_5 l1_5.length c1_5] 38 (0, 0)) (rBx7 BK213.out)) : gb213 ≠ gb259)); have NB259_213 := Aside0.mk ((by rw [hg]; exact Nat.ne_of_gt (blk_lt (g := gb213) (o := .cells #[.int .i64 a1_0, .int .i64 a1_1, .int .i64 a1_2, .slice A1_3 l1_3.length c1_3, .slice A1_4 l1_4.length c1_4, .slice A1_5 l1_5.length c1_5] 38 (0, 0)) (rBx7 BK213.out)) : gb259 ≠ gb213)); replace BK213 := Aside0.mk (blk_below (g := gb213) (o := .cells #[.int .i64 a1_0, .int .i64 a1_1, .int .i64 a1_2, .slice A1_3 l1_3.length c1_3, .slice A1_4 l1_4.length c1_4, .slice A1_5 l1_5.length c1_5] 38 (0, 0)) (rBx7 BK213.out) hb); clear hb hbox hg; have hnb47 := NB259_212.out; have hnc47 := NB212_259.out; have hnb48 := NB259_213.out; have hnc48 := NB213_259.out; obtain ⟨hcz49_0, hcz49_1, hcz49_2, hcz49_3, hcz49_4, hcz49_5, hfz49_0, hfz49_1, hfz49_2, hfz49_3, hfz49_4, hfz49_5⟩ := cf6x7 BK259.out; obtain ⟨Ao50, co50, eo50⟩ := Kd.R_slice HO252.out; subst eo50; obtain ⟨Ao51, co51, eo51⟩ := Kd.R_slice HO255.out; subst eo51; obtain ⟨Ao52, co52, eo52⟩ := Kd.R_slice HO258.out; subst eo52; obtain ⟨hcz53_0, hcz53_1, hcz53_2, hcz53_3, hcz53_4, hcz53_5, hfz53_0, hfz53_1, hfz53_2, hfz53_3, hfz53_4, hfz53_5⟩ := cf6x7 BK213.out) | ((with_reducible refine gate_callee (f := 24) rfl ?_); refine goesL_ (some 45) rfl rfl Try.func24 (by kernel_rfl) rfl #[.agg #[.int .i64 a1_0, .int .i64 a1_1, .int .i64 a1_2, .slice A1_3 l1_3.length c1_3, .slice A1_4 l1_4.length c1_4, .slice A1_5 l1_5.length c1_5]] rfl mpx7 ?_; (with_reducible refine (laws_toModel.calls k a1_0 a1_1 a1_2 _ _ l1_3 _ _ l1_4 _ _ l1_5 t260 t261 t262 t263 t266 t269 _ ?side1 ?side2 ?side3 ?side4 ?side5 ?side6 A24.out).mono ?_); (case side1 => exact Kd.C_below HR1_3.out (be3x7 HB.out GE212.out GE213.out GE259.out)); (case side2 => exact HC1_3.out); (case side3 => exact Kd.C_below HR1_4.out (be3x7 HB.out GE212.out GE213.out GE259.out)); (case side4 => exact HC1_4.out); (case side5 => exact Kd.C_below HR1_5.out (be3x7 HB.out GE212.out GE213.out GE259.out)); (case side6 => exact HC1_5.out); rintro e w54 ⟨v264, v267, v270, rfl, ho0, ho1, ho2, hb⟩; refine ⟨_, rfl, ?_⟩; have HO265 := Aside0.mk (Kd.R_lower (nwx7 (nwx7 (nwx7 (nwx7 (nwx7 (nwx7 (nwx7 (nwx7 (nwx7 (nwx7 (nwx7 ho0 (sR6x7 HO221.out BK259.out)) (sR6x7 HO224.out BK259.out)) (sR6x7 HO227.out BK259.out)) (sR6x7 HO233.out BK259.out)) (sR6x7 HO236.out BK259.out)) (sR6x7 HO239.out BK259.out)) (sR6x7 HO242.out BK259.out)) (sR6x7 HO245.out BK259.out)) (sR6x7 HO252.out BK259.out)) (sR6x7 HO255.out BK259.out)) (sR6x7 HO258.out BK259.out)) (below_size (be3x7 HB.out GE212.out GE213.out GE259.out))); have HO268 := Aside0.mk (Kd.R_lower (nwx7 (nwx7 (nwx7 (nwx7 (nwx7 (nwx7 (nwx7 (nwx7 (nwx7 (nwx7 (nwx7 ho1 (sR6x7 HO221.out BK259.out)) (sR6x7 HO224.out BK259.out)) (sR6x7 HO227.out BK259.out)) (sR6x7 HO233.out BK259.out)) (sR6x7 HO236.out BK259.out)) (sR6x7 HO239.out BK259.out)) (sR6x7 HO242.out BK259.out)) (sR6x7 HO245.out BK259.out)) (sR6x7 HO252.out BK259.out)) (sR6x7 HO255.out BK259.out)) (sR6x7 HO258.out BK259.out)) (below_size (be3x7 HB.out GE212.out GE213.out GE259.out))); have HO271 := Aside0.mk (Kd.R_lower (nwx7 (nwx7 (nwx7 (nwx7 (nwx7 (nwx7 (nwx7 (nwx7 (nwx7 (nwx7 (nwx7 ho2 (sR6x7 HO221.out BK259.out)) (sR6x7 HO224.out BK259.out)) (sR6x7 HO227.out BK259.out)) (sR6x7 HO233.out BK259.out)) (sR6x7 HO236.out BK259.out)) (sR6x7 HO239.out BK259.out)) (sR6x7 HO242.out BK259.out)) (sR6x7 HO245.out BK259.out)) (sR6x7 HO252.out BK259.out)) (sR6x7 HO255.out BK259.out)) (sR6x7 HO258.out BK259.out)) (below_size (be3x7 HB.out GE212.out GE213.out GE259.out))); replace HO221 := Aside0.mk (kp3x7 (sR6x7 HO221.out BK259.out) hb ho0 ho1 ho2); replace HO224 := Aside0.mk (kp3x7 (sR6x7 HO224.out BK259.out) hb ho0 ho1 ho2); replace HO227 := Aside0.mk (kp3x7 (sR6x7 HO227.out BK259.out) hb ho0 ho1 ho2); replace HO233 := Aside0.mk (kp3x7 (sR6x7 HO233.out BK259.out) hb ho0 ho1 ho2); replace HO236 := Aside0.mk (kp3x7 (sR6x7 HO236.out BK259.out) hb ho0 ho1 ho2); replace HO239 := Aside0.mk (kp3x7 (sR6x7 HO239.out BK259.out) hb ho0 ho1 ho2); replace HO242 := Aside0.mk (kp3x7 (sR6x7 HO242.out BK259.out) hb ho0 ho1 ho2); replace HO245 := Aside0.mk (kp3x7 (sR6x7 HO245.out BK259.out) hb ho0 ho1 ho2); replace HO252 := Aside0.mk (kp3x7 (sR6x7 HO252.out BK259.out) hb ho0 ho1 ho2); replace HO255 := Aside0.mk (kp3x7 (sR6x7 HO255.out BK259.out) hb ho0 ho1 ho2); replace HO258 := Aside0.mk (kp3x7 (sR6x7 HO258.out BK259.out) hb ho0 ho1 ho2); replace BK212 := Aside0.mk (blk_below (g := gb212) (o := .cells #[.int .i64 a0_0, .int .i64 a0_1, .int .i64 a0_2, .slice A0_3 l0_3.length c0_3, .slice A0_4 l0_4.length c0_4, .slice A0_5 l0_5.length c0_5] 38 (0, 0)) (bb6x7 BK212.out NB212_259.out) hb); replace BK213 := Aside0.mk (blk_below (g := gb213) (o := .cells #[.int .i64 a1_0, .int .i64 a1_1, .int .i64 a1_2, .slice A1_3 l1_3.length c1_3, .slice A1_4 l1_4.length c1_4, .slice A1_5 l1_5.length c1_5] 38 (0, 0)) (bb6x7 BK213.out NB213_259.out) hb); replace BK259 := Aside0.mk (blk_below (g := gb259) (o := .cells #[.int .i64 t247, .int .i64 t248, .int .i64 t249, .slice Ao50 t250.length co50, .slice Ao51 t253.length co51, .slice Ao52 t256.length co52] 44 (0, 0)) (by (with_reducible repeat (first | refine blk_drewN ?_ _ | refine blk_drew ?_ | refine blk_alloc ?_ _)); refine blk_put (cs := #[.int .i64 t247, .int .i64 t248, .int .i64 t249, .slice Ao50 t250.length co50, .slice Ao51 t253.length co51, .slice none 0 0]) ?_ 5 _ rfl; (with_reducible repeat (first | refine blk_drewN ?_ _ | refine blk_drew ?_ | refine blk_alloc ?_ _)); refine blk_put (cs := #[.int .i64 t247, .int .i64 t248, .int .i64 t249, .slice Ao50 t250.length co50, .slice none 0 0, .slice none 0 0]) ?_ 4 _ rfl; (with_reducible repeat (first | refine blk_drewN ?_ _ | refine blk_drew ?_ | refine blk_alloc ?_ _)); refine blk_put (cs := #[.int .i64 t247, .int .i64 t248, .int .i64 t249, .slice none 0 0, .slice none 0 0, .slice none 0 0]) ?_ 3 _ rfl; (with_reducible repeat (first | refine blk_drewN ?_ _ | refine blk_drew ?_ | refine blk_alloc ?_ _)); refine blk_put (cs := #[.int .i64 t247, .int .i64 t248, .int .i64 0, .slice none 0 0, .slice none 0 0, .slice none 0 0]) ?_ 2 _ rfl; (with_reducible repeat (first | refine blk_drewN ?_ _ | refine blk_drew ?_ | refine blk_alloc ?_ _)); refine blk_put (cs := #[.int .i64 t247, .int .i64 0, .int .i64 0, .slice none 0 0, .slice none 0 0, .slice none 0 0]) ?_ 1 _ rfl; (with_reducible repeat (first | refine blk_drewN ?_ _ | refine blk_drew ?_ | refine blk_alloc ?_ _)); refine blk_put (cs := #[.int .i64 0, .int .i64 0, .int .i64 0, .slice none 0 0, .slice none 0 0, .slice none 0 0]) ?_ 0 _ rfl; (with_reducible repeat (first | refine blk_drewN ?_ _ | refine blk_drew ?_ | refine blk_alloc ?_ _)); exact BK259.out) hb); replace HB := Aside0.mk (below_step (be3x7 HB.out GE212.out GE213.out GE259.out) hb); (try clear hb); (try clear hb2); (try clear hk); (try clear hi); (try clear ho0); (try clear ho1); (try clear ho2)) | ((with_reducible refine gate_dst (N := 12) rfl ?_); refine box_event ?hg (N := 12) ?hd (cs := #[.int .i64 0, .int .i64 0, .int .i64 0, .slice none 0 0, .slice none 0 0, .slice none 0 0]) (t := 44) ?hr ?_; (case hd => rfl); (case hg => rfl); (case hr => first | (go_simp; done) | (go_simp; rfl)); intro gb272 hg w55 hbox hb; replace HO221 := Aside0.mk (Kd.R_below (rRx7 HO221.out) hb); replace HO224 := Aside0.mk (Kd.R_below (rRx7 HO224.out) hb); replace HO227 := Aside0.mk (Kd.R_below (rRx7 HO227.out) hb); replace HO233 := Aside0.mk (Kd.R_below (rRx7 HO233.out) hb); replace HO236 := Aside0.mk (Kd.R_below (rRx7 HO236.out) hb); replace HO239 := Aside0.mk (Kd.R_below (rRx7 HO239.out) hb); replace HO242 := Aside0.mk (Kd.R_below (rRx7 HO242.out) hb); replace HO245 := Aside0.mk (Kd.R_below (rRx7 HO245.out) hb); replace HO252 := Aside0.mk (Kd.R_below (rRx7 HO252.out) hb); replace HO255 := Aside0.mk (Kd.R_below (rRx7 HO255.out) hb); replace HO258 := Aside0.mk (Kd.R_below (rRx7 HO258.out) hb); replace HO265 := Aside0.mk (Kd.R_below (rRx7 HO265.out) hb); replace HO268 := Aside0.mk (Kd.R_below (rRx7 HO268.out) hb); replace HO271 := Aside0.mk (Kd.R_below (rRx7 HO271.out) hb); have BK272 := Aside0.mk (hbox); have GW272 := Aside0.mk ((by rw [hg]; exact (below_size (be3x7 HB.out GE212.out GE213.out GE259.out)) : w.heap.size ≤ gb272)); have GE272 := Aside0.mk ((by rw [hg]; exact (below_size (be3x7 HB.out GE212.out GE213.out GE259.out)) : w.heap.size ≤ gb272)); replace HB := Aside0.mk (below_step (be3x7 HB.out GE212.out GE213.out GE259.out) hb); have NB212_272 := Aside0.mk ((by rw [hg]; exact Nat.ne_of_lt (blk_lt (g := gb212) (o := .cells #[.int .i64 a0_0, .int .i64 a0_1, .int .i64 a0_2, .slice A0_3 l0_3.length c0_3, .slice A0_4 l0_4.length c0_4, .slice A0_5 l0_5.length c0_5] 38 (0, 0)) (rBx7 BK212.out)) : gb212 ≠ gb272)); have NB272_212 := Aside0.mk ((by rw [hg]; exact Nat.ne_of_gt (blk_lt (g := gb212) (o := .cells #[.int .i64 a0_0, .int .i64 a0_1, .int .i64 a0_2, .slice A0_3 l0_3.length c0_3, .slice A0_4 l0_4.length c0_4, .slice A0_5 l0_5.length c0_5] 38 (0, 0)) (rBx7 BK212.out)) : gb272 ≠ gb212)); replace BK212 := Aside0.mk (blk_below (g := gb212) (o := .cells #[.int .i64 a0_0, .int .i64 a0_1, .int .i64 a0_2, .slice A0_3 l0_3.length c0_3, .slice A0_4 l0_4.length c0_4, .slice A0_5 l0_5.length c0_5] 38 (0, 0)) (rBx7 BK212.out) hb); have NB213_272 := Aside0.mk ((by rw [hg]; exact Nat.ne_of_lt (blk_lt (g := gb213) (o := .cells #[.int .i64 a1_0, .int .i64 a1_1, .int .i64 a1_2, .slice A1_3 l1_3.length c1_3, .slice A1_4 l1_4.length c1_4, .slice A1_5 l1_5.length c1_5] 38 (0, 0)) (rBx7 BK213.out)) : gb213 ≠ gb272)); have NB272_213 := Aside0.mk ((by rw [hg]; exact Nat.ne_of_gt (blk_lt (g := gb213) (o := .cells #[.int .i64 a1_0, .int .i64 a1_1, .int .i64 a1_2, .slice A1_3 l1_3.length c1_3, .slice A1_4 l1_4.length c1_4, .slice A1_5 l1_5.length c1_5] 38 (0, 0)) (rBx7 BK213.out)) : gb272 ≠ gb213)); replace BK213 := Aside0.mk (blk_below (g := gb213) (o := .cells #[.int .i64 a1_0, .int .i64 a1_1, .int .i64 a1_2, .slice A1_3 l1_3.length c1_3, .slice A1_4 l1_4.length c1_4, .slice A1_5 l1_5.length c1_5] 38 (0, 0)) (rBx7 BK213.out) hb); have NB259_272 := Aside0.mk ((by rw [hg]; exact Nat.ne_of_lt (blk_lt (g := gb259) (o := .cells #[.int .i64 t247, .int .i64 t248, .int .i64 t249, .slice Ao50 t250.length co50, .slice Ao51 t253.length co51, .slice Ao52 t256.length co52] 44 (0, 0)) (rBx7 BK259.out)) : gb259 ≠ gb272)); have NB272_259 := Aside0.mk ((by rw [hg]; exact Nat.ne_of_gt (blk_lt (g := gb259) (o := .cells #[.int .i64 t247, .int .i64 t248, .int .i64 t249, .slice Ao50 t250.length co50, .slice Ao51 t253.length co51, .slice Ao52 t256.length co52] 44 (0, 0)) (rBx7 BK259.out)) : gb272 ≠ gb259)); replace BK259 := Aside0.mk (blk_below (g := gb259) (o := .cells #[.int .i64 t247, .int .i64 t248, .int .i64 t249, .slice Ao50 t250.length co50, .slice Ao51 t253.length co51, .slice Ao52 t256.length co52] 44 (0, 0)) (rBx7 BK259.out) hb); clear hb hbox hg; have hnb56 := NB272_212.out; have hnc56 := NB212_272.out; have hnb57 := NB272_213.out; have hnc57 := NB213_272.out; have hnb58 := NB272_259.out; have hnc58 := NB259_272.out; obtain ⟨hcz59_0, hcz59_1, hcz59_2, hcz59_3, hcz59_4, hcz59_5, hfz59_0, hfz59_1, hfz59_2, hfz59_3, hfz59_4, hfz59_5⟩ := cf6x7 BK272.out; obtain ⟨Ao60, co60, eo60⟩ := Kd.R_slice HO265.out; subst eo60; obtain ⟨Ao61, co61, eo61⟩ := Kd.R_slice HO268.out; subst eo61; obtain ⟨Ao62, co62, eo62⟩ := Kd.R_slice HO271.out; subst eo62; obtain ⟨hcz63_0, hcz63_1, hcz63_2, hcz63_3, hcz63_4, hcz63_5, hfz63_0, hfz63_1, hfz63_2, hfz63_3, hfz63_4, hfz63_5⟩ := cf6x7 BK259.out) | ((with_reducible refine gate_callee (f := 58) rfl ?_); refine goesL_ (some 50) rfl rfl Try.func58 (by kernel_rfl) rfl #[.agg #[.int .i64 t247, .int .i64 t248, .int .i64 t249, .slice Ao50 t250.length co50, .slice Ao51 t253.length co51, .slice Ao52 t256.length co52], .agg #[.int .i64 t260, .int .i64 t261, .int .i64 t262, .slice Ao60 t263.length co60, .slice Ao61 t266.length co61, .slice Ao62 t269.length co62], .int .i64 a2] rfl mpx7 ?_; (with_reducible refine (impl_KindChanges.calls k t247 t248 t249 _ _ t250 _ _ t253 _ _ t256 t260 t261 t262 _ _ t263 _ _ t266 _ _ t269 a2 t273 t276 t279 _ ?side1 ?side2 ?side3 ?side4 ?side5 ?side6 ?side7 ?side8 ?side9 ?side10 ?side11 ?side12 A25.out).mono ?_); (case side1 => exact cS6x7 HO252.out BK272.out); (case side2 => exact (Kd.R_reads' HO252.out).2.1); (case side3 => exact cS6x7 HO255.out BK272.out); (case side4 => exact (Kd.R_reads' HO255.out).2.1); (case side5 => exact cS6x7 HO258.out BK272.out); (case side6 => exact (Kd.R_reads' HO258.out).2.1); (case side7 => exact cS6x7 HO265.out BK272.out); (case side8 => exact (Kd.R_reads' HO265.out).2.1); (case side9 => exact cS6x7 HO268.out BK272.out); (case side10 => exact (Kd.R_reads' HO268.out).2.1); (case side11 => exact cS6x7 HO271.out BK272.out); (case side12 => exact (Kd.R_reads' HO271.out).2.1); rintro e w64 ⟨v274, v277, rfl, ho0, ho1, hb⟩; refine ⟨_, rfl, ?_⟩; have HO275 := Aside0.mk (Kd.R_lower (nwx7 (nwx7 (nwx7 (nwx7 (nwx7 (nwx7 (nwx7 (nwx7 (nwx7 (nwx7 (nwx7 (nwx7 (nwx7 (nwx7 ho0 (sR6x7 HO221.out BK272.out)) (sR6x7 HO224.out BK272.out)) (sR6x7 HO227.out BK272.out)) (sR6x7 HO233.out BK272.out)) (sR6x7 HO236.out BK272.out)) (sR6x7 HO239.out BK272.out)) (sR6x7 HO242.out BK272.out)) (sR6x7 HO245.out BK272.out)) (sR6x7 HO252.out BK272.out)) (sR6x7 HO255.out BK272.out)) (sR6x7 HO258.out BK272.out)) (sR6x7 HO265.out BK272.out)) (sR6x7 HO268.out BK272.out)) (sR6x7 HO271.out BK272.out)) (below_size (be4x7 HB.out GE212.out GE213.out GE259.out GE272.out))); have HO278 := Aside0.mk (Kd.R_lower (nwx7 (nwx7 (nwx7 (nwx7 (nwx7 (nwx7 (nwx7 (nwx7 (nwx7 (nwx7 (nwx7 (nwx7 (nwx7 (nwx7 ho1 (sR6x7 HO221.out BK272.out)) (sR6x7 HO224.out BK272.out)) (sR6x7 HO227.out BK272.out)) (sR6x7 HO233.out BK272.out)) (sR6x7 HO236.out BK272.out)) (sR6x7 HO239.out BK272.out)) (sR6x7 HO242.out BK272.out)) (sR6x7 HO245.out BK272.out)) (sR6x7 HO252.out BK272.out)) (sR6x7 HO255.out BK272.out)) (sR6x7 HO258.out BK272.out)) (sR6x7 HO265.out BK272.out)) (sR6x7 HO268.out BK272.out)) (sR6x7 HO271.out BK272.out)) (below_size (be4x7 HB.out GE212.out GE213.out GE259.out GE272.out))); replace HO221 := Aside0.mk (kp2x7 (sR6x7 HO221.out BK272.out) hb ho0 ho1); replace HO224 := Aside0.mk (kp2x7 (sR6x7 HO224.out BK272.out) hb ho0 ho1); replace HO227 := Aside0.mk (kp2x7 (sR6x7 HO227.out BK272.out) hb ho0 ho1); replace HO233 := Aside0.mk (kp2x7 (sR6x7 HO233.out BK272.out) hb ho0 ho1); replace HO236 := Aside0.mk (kp2x7 (sR6x7 HO236.out BK272.out) hb ho0 ho1); replace HO239 := Aside0.mk (kp2x7 (sR6x7 HO239.out BK272.out) hb ho0 ho1); replace HO242 := Aside0.mk (kp2x7 (sR6x7 HO242.out BK272.out) hb ho0 ho1); replace HO245 := Aside0.mk (kp2x7 (sR6x7 HO245.out BK272.out) hb ho0 ho1); replace HO252 := Aside0.mk (kp2x7 (sR6x7 HO252.out BK272.out) hb ho0 ho1); replace HO255 := Aside0.mk (kp2x7 (sR6x7 HO255.out BK272.out) hb ho0 ho1); replace HO258 := Aside0.mk (kp2x7 (sR6x7 HO258.out BK272.out) hb ho0 ho1); replace HO265 := Aside0.mk (kp2x7 (sR6x7 HO265.out BK272.out) hb ho0 ho1); replace HO268 := Aside0.mk (kp2x7 (sR6x7 HO268.out BK272.out) hb ho0 ho1); replace HO271 := Aside0.mk (kp2x7 (sR6x7 HO271.out BK272.out) hb ho0 ho1); replace BK212 := Aside0.mk (blk_below (g := gb212) (o := .cells #[.int .i64 a0_0, .int .i64 a0_1, .int .i64 a0_2, .slice A0_3 l0_3.length c0_3, .slice A0_4 l0_4.length c0_4, .slice A0_5 l0_5.length c0_5] 38 (0, 0)) (bb6x7 BK212.out NB212_272.out) hb); replace BK213 := Aside0.mk (blk_below (g := gb213) (o := .cells #[.int .i64 a1_0, .int .i64 a1_1, .int .i64 a1_2, .slice A1_3 l1_3.length c1_3, .slice A1_4 l1_4.length c1_4, .slice A1_5 l1_5.length c1_5] 38 (0, 0)) (bb6x7 BK213.out NB213_272.out) hb); replace BK259 := Aside0.mk (blk_below (g := gb259) (o := .cells #[.int .i64 t247, .int .i64 t248, .int .i64 t249, .slice Ao50 t250.length co50, .slice Ao51 t253.length co51, .slice Ao52 t256.length co52] 44 (0, 0)) (bb6x7 BK259.out NB259_272.out) hb); replace BK272 := Aside0.mk (blk_below (g := gb272) (o := .cells #[.int .i64 t260, .int .i64 t261, .int .i64 t262, .slice Ao60 t263.length co60, .slice Ao61 t266.length co61, .slice Ao62 t269.length co62] 44 (0, 0)) (by (with_reducible repeat (first | refine blk_drewN ?_ _ | refine blk_drew ?_ | refine blk_alloc ?_ _)); refine blk_put (cs := #[.int .i64 t260, .int .i64 t261, .int .i64 t262, .slice Ao60 t263.length co60, .slice Ao61 t266.length co61, .slice none 0 0]) ?_ 5 _ rfl; (with_reducible repeat (first | refine blk_drewN ?_ _ | refine blk_drew ?_ | refine blk_alloc ?_ _)); refine blk_put (cs := #[.int .i64 t260, .int .i64 t261, .int .i64 t262, .slice Ao60 t263.length co60, .slice none 0 0, .slice none 0 0]) ?_ 4 _ rfl; (with_reducible repeat (first | refine blk_drewN ?_ _ | refine blk_drew ?_ | refine blk_alloc ?_ _)); refine blk_put (cs := #[.int .i64 t260, .int .i64 t261, .int .i64 t262, .slice none 0 0, .slice none 0 0, .slice none 0 0]) ?_ 3 _ rfl; (with_reducible repeat (first | refine blk_drewN ?_ _ | refine blk_drew ?_ | refine blk_alloc ?_ _)); refine blk_put (cs := #[.int .i64 t260, .int .i64 t261, .int .i64 0, .slice none 0 0, .slice none 0 0, .slice none 0 0]) ?_ 2 _ rfl; (with_reducible repeat (first | refine blk_drewN ?_ _ | refine blk_drew ?_ | refine blk_alloc ?_ _)); refine blk_put (cs := #[.int .i64 t260, .int .i64 0, .int .i64 0, .slice none 0 0, .slice none 0 0, .slice none 0 0]) ?_ 1 _ rfl; (with_reducible repeat (first | refine blk_drewN ?_ _ | refine blk_drew ?_ | refine blk_alloc ?_ _)); refine blk_put (cs := #[.int .i64 0, .int .i64 0, .int .i64 0, .slice none 0 0, .slice none 0 0, .slice none 0 0]) ?_ 0 _ rfl; (with_reducible repeat (first | refine blk_drewN ?_ _ | refine blk_drew ?_ | refine blk_alloc ?_ _)); exact BK272.out) hb); replace HB := Aside0.mk (below_step (be4x7 HB.out GE212.out GE213.out GE259.out GE272.out) hb); (try clear hb); (try clear hb2); (try clear hk); (try clear hi); (try clear ho0); (try clear ho1)))
   (try simp only [Act.put, List.setIfInBounds_toArray, List.set_cons_zero, List.set_cons_succ])
   go_cut [68] (fun v68 wc => ∃ (kq : Nat) (x68_25 : Bool), v68 = .bool x68_25 ∧ Aside0 (laws_FnExactKindChanges.j0 kq a2 t240 t243 t246 t273 t276 t279 x68_25 a0_0 a0_1 a0_2 l0_3 l0_4 l0_5 a1_0 a1_1 a1_2 l1_3 l1_4 l1_5 t247 t248 t249 t250 t253 t256 t260 t261 t262 t263 t266 t269 = some r) ∧ Aside0 (kq ≤ k) ∧ Aside0 (Kd.R (Kd.int .i64) 3 wc w.heap.size (fun k_ => some k_ ≠ (v244 : Value).ownBlock ∧ some k_ ≠ (v274 : Value).ownBlock ∧ some k_ ≠ (v277 : Value).ownBlock ∧ some k_ ≠ ((.slice Ao50 t250.length co50) : Value).ownBlock ∧ some k_ ≠ ((.slice Ao51 t253.length co51) : Value).ownBlock ∧ some k_ ≠ ((.slice Ao52 t256.length co52) : Value).ownBlock ∧ some k_ ≠ ((.slice Ao60 t263.length co60) : Value).ownBlock ∧ some k_ ≠ ((.slice Ao61 t266.length co61) : Value).ownBlock ∧ some k_ ≠ ((.slice Ao62 t269.length co62) : Value).ownBlock) v241 t240) ∧ Aside0 (Kd.R (Kd.int .i64) 3 wc w.heap.size (fun k_ => some k_ ≠ (v241 : Value).ownBlock ∧ some k_ ≠ (v274 : Value).ownBlock ∧ some k_ ≠ (v277 : Value).ownBlock ∧ some k_ ≠ ((.slice Ao50 t250.length co50) : Value).ownBlock ∧ some k_ ≠ ((.slice Ao51 t253.length co51) : Value).ownBlock ∧ some k_ ≠ ((.slice Ao52 t256.length co52) : Value).ownBlock ∧ some k_ ≠ ((.slice Ao60 t263.length co60) : Value).ownBlock ∧ some k_ ≠ ((.slice Ao61 t266.length co61) : Value).ownBlock ∧ some k_ ≠ ((.slice Ao62 t269.length co62) : Value).ownBlock) v244 t243) ∧ Aside0 (Kd.R (Kd.int .i64) 3 wc w.heap.size (fun k_ => some k_ ≠ (v241 : Value).ownBlock ∧ some k_ ≠ (v244 : Value).ownBlock ∧ some k_ ≠ (v277 : Value).ownBlock ∧ some k_ ≠ ((.slice Ao50 t250.length co50) : Value).ownBlock ∧ some k_ ≠ ((.slice Ao51 t253.length co51) : Value).ownBlock ∧ some k_ ≠ ((.slice Ao52 t256.length co52) : Value).ownBlock ∧ some k_ ≠ ((.slice Ao60 t263.length co60) : Value).ownBlock ∧ some k_ ≠ ((.slice Ao61 t266.length co61) : Value).ownBlock ∧ some k_ ≠ ((.slice Ao62 t269.length co62) : Value).ownBlock) v274 t273) ∧ Aside0 (Kd.R (Kd.int .i64) 3 wc w.heap.size (fun k_ => some k_ ≠ (v241 : Value).ownBlock ∧ some k_ ≠ (v244 : Value).ownBlock ∧ some k_ ≠ (v274 : Value).ownBlock ∧ some k_ ≠ ((.slice Ao50 t250.length co50) : Value).ownBlock ∧ some k_ ≠ ((.slice Ao51 t253.length co51) : Value).ownBlock ∧ some k_ ≠ ((.slice Ao52 t256.length co52) : Value).ownBlock ∧ some k_ ≠ ((.slice Ao60 t263.length co60) : Value).ownBlock ∧ some k_ ≠ ((.slice Ao61 t266.length co61) : Value).ownBlock ∧ some k_ ≠ ((.slice Ao62 t269.length co62) : Value).ownBlock) v277 t276) ∧ Aside0 (Kd.R (Kd.int .i64) 3 wc w.heap.size (fun k_ => some k_ ≠ (v241 : Value).ownBlock ∧ some k_ ≠ (v244 : Value).ownBlock ∧ some k_ ≠ (v274 : Value).ownBlock ∧ some k_ ≠ (v277 : Value).ownBlock ∧ some k_ ≠ ((.slice Ao51 t253.length co51) : Value).ownBlock ∧ some k_ ≠ ((.slice Ao52 t256.length co52) : Value).ownBlock ∧ some k_ ≠ ((.slice Ao60 t263.length co60) : Value).ownBlock ∧ some k_ ≠ ((.slice Ao61 t266.length co61) : Value).ownBlock ∧ some k_ ≠ ((.slice Ao62 t269.length co62) : Value).ownBlock) (.slice Ao50 t250.length co50) t250) ∧ Aside0 (Kd.R (Kd.int .i64) 3 wc w.heap.size (fun k_ => some k_ ≠ (v241 : Value).ownBlock ∧ some k_ ≠ (v244 : Value).ownBlock ∧ some k_ ≠ (v274 : Value).ownBlock ∧ some k_ ≠ (v277 : Value).ownBlock ∧ some k_ ≠ ((.slice Ao50 t250.length co50) : Value).ownBlock ∧ some k_ ≠ ((.slice Ao52 t256.length co52) : Value).ownBlock ∧ some k_ ≠ ((.slice Ao60 t263.length co60) : Value).ownBlock ∧ some k_ ≠ ((.slice Ao61 t266.length co61) : Value).ownBlock ∧ some k_ ≠ ((.slice Ao62 t269.length co62) : Value).ownBlock) (.slice Ao51 t253.length co51) t253) ∧ Aside0 (Kd.R (Kd.int .i64) 3 wc w.heap.size (fun k_ => some k_ ≠ (v241 : Value).ownBlock ∧ some k_ ≠ (v244 : Value).ownBlock ∧ some k_ ≠ (v274 : Value).ownBlock ∧ some k_ ≠ (v277 : Value).ownBlock ∧ some k_ ≠ ((.slice Ao50 t250.length co50) : Value).ownBlock ∧ some k_ ≠ ((.slice Ao51 t253.length co51) : Value).ownBlock ∧ some k_ ≠ ((.slice Ao60 t263.length co60) : Value).ownBlock ∧ some k_ ≠ ((.slice Ao61 t266.length co61) : Value).ownBlock ∧ some k_ ≠ ((.slice Ao62 t269.length co62) : Value).ownBlock) (.slice Ao52 t256.length co52) t256) ∧ Aside0 (Kd.R (Kd.int .i64) 3 wc w.heap.size (fun k_ => some k_ ≠ (v241 : Value).ownBlock ∧ some k_ ≠ (v244 : Value).ownBlock ∧ some k_ ≠ (v274 : Value).ownBlock ∧ some k_ ≠ (v277 : Value).ownBlock ∧ some k_ ≠ ((.slice Ao50 t250.length co50) : Value).ownBlock ∧ some k_ ≠ ((.slice Ao51 t253.length co51) : Value).ownBlock ∧ some k_ ≠ ((.slice Ao52 t256.length co52) : Value).ownBlock ∧ some k_ ≠ ((.slice Ao61 t266.length co61) : Value).ownBlock ∧ some k_ ≠ ((.slice Ao62 t269.length co62) : Value).ownBlock) (.slice Ao60 t263.length co60) t263) ∧ Aside0 (Kd.R (Kd.int .i64) 3 wc w.heap.size (fun k_ => some k_ ≠ (v241 : Value).ownBlock ∧ some k_ ≠ (v244 : Value).ownBlock ∧ some k_ ≠ (v274 : Value).ownBlock ∧ some k_ ≠ (v277 : Value).ownBlock ∧ some k_ ≠ ((.slice Ao50 t250.length co50) : Value).ownBlock ∧ some k_ ≠ ((.slice Ao51 t253.length co51) : Value).ownBlock ∧ some k_ ≠ ((.slice Ao52 t256.length co52) : Value).ownBlock ∧ some k_ ≠ ((.slice Ao60 t263.length co60) : Value).ownBlock ∧ some k_ ≠ ((.slice Ao62 t269.length co62) : Value).ownBlock) (.slice Ao61 t266.length co61) t266) ∧ Aside0 (Kd.R (Kd.int .i64) 3 wc w.heap.size (fun k_ => some k_ ≠ (v241 : Value).ownBlock ∧ some k_ ≠ (v244 : Value).ownBlock ∧ some k_ ≠ (v274 : Value).ownBlock ∧ some k_ ≠ (v277 : Value).ownBlock ∧ some k_ ≠ ((.slice Ao50 t250.length co50) : Value).ownBlock ∧ some k_ ≠ ((.slice Ao51 t253.length co51) : Value).ownBlock ∧ some k_ ≠ ((.slice Ao52 t256.length co52) : Value).ownBlock ∧ some k_ ≠ ((.slice Ao60 t263.length co60) : Value).ownBlock ∧ some k_ ≠ ((.slice Ao61 t266.length co61) : Value).ownBlock) (.slice Ao62 t269.length co62) t269) ∧ Aside0 (wc.heap[gb212]? = some (.cells #[.int .i64 a0_0, .int .i64 a0_1, .int .i64 a0_2, (.slice A0_3 l0_3.length c0_3), (.slice A0_4 l0_4.length c0_4), (.slice A0_5 l0_5.length c0_5)] 38 (0, 0))) ∧ Aside0 (wc.heap[gb213]? = some (.cells #[.int .i64 a1_0, .int .i64 a1_1, .int .i64 a1_2, (.slice A1_3 l1_3.length c1_3), (.slice A1_4 l1_4.length c1_4), (.slice A1_5 l1_5.length c1_5)] 38 (0, 0))) ∧ Aside0 (wc.heap[gb259]? = some (.cells #[.int .i64 t247, .int .i64 t248, .int .i64 t249, (.slice Ao50 t250.length co50), (.slice Ao51 t253.length co51), (.slice Ao52 t256.length co52)] 44 (0, 0))) ∧ Aside0 (wc.heap[gb272]? = some (.cells #[.int .i64 t260, .int .i64 t261, .int .i64 t262, (.slice Ao60 t263.length co60), (.slice Ao61 t266.length co61), (.slice Ao62 t269.length co62)] 44 (0, 0))) ∧ Aside0 (Below w.heap.size w wc))
   case first =>
    have H := HC26.out
    clear HC26
    replace H := Option.bind_eq_some_iff.mp H
    obtain ⟨t280, A650, H⟩ := H
    have A65 := Aside0.mk A650
    clear A650
    by_cases c66 : t280 = true
    ·subst c66
     have H1 : ((laws_eqIntS.f k t276 t243).bind fun t281 => (if t281 = true then (laws_FnExactKindChanges.j0 k a2 t240 t243 t246 t273 t276 t279 (t279 != t246) a0_0 a0_1 a0_2 l0_3 l0_4 l0_5 a1_0 a1_1 a1_2 l1_3 l1_4 l1_5 t247 t248 t249 t250 t253 t256 t260 t261 t262 t263 t266 t269) else (laws_FnExactKindChanges.j0 k a2 t240 t243 t246 t273 t276 t279 true a0_0 a0_1 a0_2 l0_3 l0_4 l0_5 a1_0 a1_1 a1_2 l1_3 l1_4 l1_5 t247 t248 t249 t250 t253 t256 t260 t261 t262 t263 t266 t269))) = some r := by rw [if_pos rfl] at H; exact H
     clear H
     have H := H1
     clear H1
     replace H := Option.bind_eq_some_iff.mp H
     obtain ⟨t281, A670, H⟩ := H
     have A67 := Aside0.mk A670
     clear A670
     by_cases c68 : t281 = true
     ·subst c68
      have H1 : (laws_FnExactKindChanges.j0 k a2 t240 t243 t246 t273 t276 t279 (t279 != t246) a0_0 a0_1 a0_2 l0_3 l0_4 l0_5 a1_0 a1_1 a1_2 l1_3 l1_4 l1_5 t247 t248 t249 t250 t253 t256 t260 t261 t262 t263 t266 t269) = some r := by rw [if_pos rfl] at H; exact H
      clear H
      have H := H1
      clear H1
      have H' := Aside0.mk H
      clear H
      obtain ⟨Ao69, co69, eo69⟩ := Kd.R_slice HO275.out
      subst eo69
      obtain ⟨Ao70, co70, eo70⟩ := Kd.R_slice HO242.out
      subst eo70
      go_wp2_with (first | ((with_reducible refine gate_callee (f := 35) rfl ?_); refine goesL_ (some 56) rfl rfl Try.func35 (by kernel_rfl) rfl #[.slice Ao69 t273.length co69, .slice Ao70 t240.length co70] rfl mpx7 ?_; (with_reducible refine (laws_eqIntS.calls k _ _ t273 _ _ t240 true _ ?side1 ?side2 ?side3 ?side4 A65.out).mono ?_); (case side1 => exact cRx7 HO275.out); (case side2 => exact (Kd.R_reads' HO275.out).2.1); (case side3 => exact cRx7 HO242.out); (case side4 => exact (Kd.R_reads' HO242.out).2.1); rintro e w' ⟨rfl, ⟨nd, rfl⟩⟩; refine ⟨_, rfl, ?_⟩; obtain ⟨Ao71, co71, eo71⟩ := Kd.R_slice HO278.out; subst eo71; obtain ⟨Ao72, co72, eo72⟩ := Kd.R_slice HO245.out; subst eo72) | (go_at_call 35; (with_reducible refine (laws_eqIntS.calls k _ _ t276 _ _ t243 true _ ?side1 ?side2 ?side3 ?side4 A67.out).mono ?_); (case side1 => exact cRx7 HO278.out); (case side2 => exact (Kd.R_reads' HO278.out).2.1); (case side3 => exact cRx7 HO245.out); (case side4 => exact (Kd.R_reads' HO245.out).2.1); rintro e w' ⟨rfl, ⟨nd, rfl⟩⟩))
      go_meet
      case rel => exact ⟨_, ((t279 != t246)), (by first | rfl | (simp; done) | (simp [*]; done)), H', ⟨by first | omega | exact Nat.le_refl _⟩, ⟨by exact rRx7 (mox7 HO242.out)⟩, ⟨by exact rRx7 (mox7 HO245.out)⟩, ⟨by exact rRx7 (mox7 HO275.out)⟩, ⟨by exact rRx7 (mox7 HO278.out)⟩, ⟨by exact rRx7 (mox7 HO252.out)⟩, ⟨by exact rRx7 (mox7 HO255.out)⟩, ⟨by exact rRx7 (mox7 HO258.out)⟩, ⟨by exact rRx7 (mox7 HO265.out)⟩, ⟨by exact rRx7 (mox7 HO268.out)⟩, ⟨by exact rRx7 (mox7 HO271.out)⟩, ⟨rBx7 BK212.out⟩, ⟨rBx7 BK213.out⟩, ⟨rBx7 BK259.out⟩, ⟨rBx7 BK272.out⟩, ⟨be4x7 HB.out GE212.out GE213.out GE259.out GE272.out⟩⟩
     ·replace c68 := Bool.eq_false_iff.mpr c68
      subst c68
      have H1 : (laws_FnExactKindChanges.j0 k a2 t240 t243 t246 t273 t276 t279 true a0_0 a0_1 a0_2 l0_3 l0_4 l0_5 a1_0 a1_1 a1_2 l1_3 l1_4 l1_5 t247 t248 t249 t250 t253 t256 t260 t261 t262 t263 t266 t269) = some r := by rw [if_neg (show ¬ (false = true) by decide)] at H; exact H
      clear H
      have H := H1
      clear H1
      have H' := Aside0.mk H
      clear H
      obtain ⟨Ao73, co73, eo73⟩ := Kd.R_slice HO275.out
      subst eo73
      obtain ⟨Ao74, co74, eo74⟩ := Kd.R_slice HO242.out
      subst eo74
      go_wp2_with (first | ((with_reducible refine gate_callee (f := 35) rfl ?_); refine goesL_ (some 56) rfl rfl Try.func35 (by kernel_rfl) rfl #[.slice Ao73 t273.length co73, .slice Ao74 t240.length co74] rfl mpx7 ?_; (with_reducible refine (laws_eqIntS.calls k _ _ t273 _ _ t240 true _ ?side1 ?side2 ?side3 ?side4 A65.out).mono ?_); (case side1 => exact cRx7 HO275.out); (case side2 => exact (Kd.R_reads' HO275.out).2.1); (case side3 => exact cRx7 HO242.out); (case side4 => exact (Kd.R_reads' HO242.out).2.1); rintro e w' ⟨rfl, ⟨nd, rfl⟩⟩; refine ⟨_, rfl, ?_⟩; obtain ⟨Ao75, co75, eo75⟩ := Kd.R_slice HO278.out; subst eo75; obtain ⟨Ao76, co76, eo76⟩ := Kd.R_slice HO245.out; subst eo76) | (go_at_call 35; (with_reducible refine (laws_eqIntS.calls k _ _ t276 _ _ t243 false _ ?side1 ?side2 ?side3 ?side4 A67.out).mono ?_); (case side1 => exact cRx7 HO278.out); (case side2 => exact (Kd.R_reads' HO278.out).2.1); (case side3 => exact cRx7 HO245.out); (case side4 => exact (Kd.R_reads' HO245.out).2.1); rintro e w' ⟨rfl, ⟨nd, rfl⟩⟩))
      go_meet
      case rel => exact ⟨_, (true), (by first | rfl | (simp; done) | (simp [*]; done)), H', ⟨by first | omega | exact Nat.le_refl _⟩, ⟨by exact rRx7 (mox7 HO242.out)⟩, ⟨by exact rRx7 (mox7 HO245.out)⟩, ⟨by exact rRx7 (mox7 HO275.out)⟩, ⟨by exact rRx7 (mox7 HO278.out)⟩, ⟨by exact rRx7 (mox7 HO252.out)⟩, ⟨by exact rRx7 (mox7 HO255.out)⟩, ⟨by exact rRx7 (mox7 HO258.out)⟩, ⟨by exact rRx7 (mox7 HO265.out)⟩, ⟨by exact rRx7 (mox7 HO268.out)⟩, ⟨by exact rRx7 (mox7 HO271.out)⟩, ⟨rBx7 BK212.out⟩, ⟨rBx7 BK213.out⟩, ⟨rBx7 BK259.out⟩, ⟨rBx7 BK272.out⟩, ⟨be4x7 HB.out GE212.out GE213.out GE259.out GE272.out⟩⟩
    ·replace c66 := Bool.eq_false_iff.mpr c66
     subst c66
     have H1 : (laws_FnExactKindChanges.j0 k a2 t240 t243 t246 t273 t276 t279 true a0_0 a0_1 a0_2 l0_3 l0_4 l0_5 a1_0 a1_1 a1_2 l1_3 l1_4 l1_5 t247 t248 t249 t250 t253 t256 t260 t261 t262 t263 t266 t269) = some r := by rw [if_neg (show ¬ (false = true) by decide)] at H; exact H
     clear H
     have H := H1
     clear H1
     have H' := Aside0.mk H
     clear H
     obtain ⟨Ao77, co77, eo77⟩ := Kd.R_slice HO275.out
     subst eo77
     obtain ⟨Ao78, co78, eo78⟩ := Kd.R_slice HO242.out
     subst eo78
     go_wp2_with (first | ((with_reducible refine gate_callee (f := 35) rfl ?_); refine goesL_ (some 56) rfl rfl Try.func35 (by kernel_rfl) rfl #[.slice Ao77 t273.length co77, .slice Ao78 t240.length co78] rfl mpx7 ?_; (with_reducible refine (laws_eqIntS.calls k _ _ t273 _ _ t240 false _ ?side1 ?side2 ?side3 ?side4 A65.out).mono ?_); (case side1 => exact cRx7 HO275.out); (case side2 => exact (Kd.R_reads' HO275.out).2.1); (case side3 => exact cRx7 HO242.out); (case side4 => exact (Kd.R_reads' HO242.out).2.1); rintro e w' ⟨rfl, ⟨nd, rfl⟩⟩; refine ⟨_, rfl, ?_⟩))
     go_meet
     case rel => exact ⟨_, (true), (by first | rfl | (simp; done) | (simp [*]; done)), H', ⟨by first | omega | exact Nat.le_refl _⟩, ⟨by exact rRx7 (mox7 HO242.out)⟩, ⟨by exact rRx7 (mox7 HO245.out)⟩, ⟨by exact rRx7 (mox7 HO275.out)⟩, ⟨by exact rRx7 (mox7 HO278.out)⟩, ⟨by exact rRx7 (mox7 HO252.out)⟩, ⟨by exact rRx7 (mox7 HO255.out)⟩, ⟨by exact rRx7 (mox7 HO258.out)⟩, ⟨by exact rRx7 (mox7 HO265.out)⟩, ⟨by exact rRx7 (mox7 HO268.out)⟩, ⟨by exact rRx7 (mox7 HO271.out)⟩, ⟨rBx7 BK212.out⟩, ⟨rBx7 BK213.out⟩, ⟨rBx7 BK259.out⟩, ⟨rBx7 BK272.out⟩, ⟨be4x7 HB.out GE212.out GE213.out GE259.out GE272.out⟩⟩
   case rest =>
    clear HC26
    try clear c5; try clear c5b0; try clear c12; try clear c12b0; try clear c66; try clear c68; try clear hcz16_0 hcz16_1 hcz16_2 hcz16_3 hcz16_4 hcz16_5; try clear hcz18_0 hcz18_1 hcz18_2 hcz18_3 hcz18_4 hcz18_5; try clear hcz30_0 hcz30_1 hcz30_2 hcz30_3 hcz30_4 hcz30_5; try clear hcz32_0 hcz32_1 hcz32_2 hcz32_3 hcz32_4 hcz32_5; try clear hcz44_0 hcz44_1 hcz44_2 hcz44_3 hcz44_4 hcz44_5; try clear hcz49_0 hcz49_1 hcz49_2 hcz49_3 hcz49_4 hcz49_5; try clear hcz53_0 hcz53_1 hcz53_2 hcz53_3 hcz53_4 hcz53_5; try clear hcz59_0 hcz59_1 hcz59_2 hcz59_3 hcz59_4 hcz59_5; try clear hcz63_0 hcz63_1 hcz63_2 hcz63_3 hcz63_4 hcz63_5; try clear hcz9_0 hcz9_1 hcz9_2 hcz9_3 hcz9_4 hcz9_5; try clear hfz16_0 hfz16_1 hfz16_2 hfz16_3 hfz16_4 hfz16_5; try clear hfz18_0 hfz18_1 hfz18_2 hfz18_3 hfz18_4 hfz18_5; try clear hfz30_0 hfz30_1 hfz30_2 hfz30_3 hfz30_4 hfz30_5; try clear hfz32_0 hfz32_1 hfz32_2 hfz32_3 hfz32_4 hfz32_5; try clear hfz44_0 hfz44_1 hfz44_2 hfz44_3 hfz44_4 hfz44_5; try clear hfz49_0 hfz49_1 hfz49_2 hfz49_3 hfz49_4 hfz49_5; try clear hfz53_0 hfz53_1 hfz53_2 hfz53_3 hfz53_4 hfz53_5; try clear hfz59_0 hfz59_1 hfz59_2 hfz59_3 hfz59_4 hfz59_5; try clear hfz63_0 hfz63_1 hfz63_2 hfz63_3 hfz63_4 hfz63_5; try clear hfz9_0 hfz9_1 hfz9_2 hfz9_3 hfz9_4 hfz9_5
    obtain ⟨kq, x68_25, rfl, HA, HJ25, HO_8, HO_9, HO_13, HO_14, HO_260003, HO_260004, HO_260005, HO_273003, HO_273004, HO_273005, BK212, BK213, BK259, BK272, HB⟩ := hcut
    cases kq with
    | zero => exact absurd HA.out (by simp [laws_FnExactKindChanges.j0])
    | succ kj25 =>
     have H := HA.out
     clear HA
     simp only [laws_FnExactKindChanges.j0] at H
     by_cases c79 : x68_25 = true
     ·subst c79
      have H1 : (some false) = some r := by rw [if_pos rfl] at H; exact H
      clear H
      have H := H1
      clear H1
      obtain rfl := Option.some.inj H
      go_wp2
      go_ret
      exact ⟨by first | rfl | (simp [errW_none, errW_some] <;> rfl) | (simp [*, errW_none, errW_some] <;> rfl), be4x7 HB.out GE212.out GE213.out GE259.out GE272.out⟩
     ·replace c79 := Bool.eq_false_iff.mpr c79
      subst c79
      have H1 : ((laws_toModel.f kj25 a0_0 a0_1 a0_2 l0_3 l0_4 l0_5).bind fun bt282 => ((laws_eqModel.f kj25 t247 t248 t249 t250 t253 t256 bt282.1 bt282.2.1 bt282.2.2.1 bt282.2.2.2.1 bt282.2.2.2.2.1 bt282.2.2.2.2.2).bind fun t294 => (if t294 = true then (laws_FnExactKindChanges.j1 kj25 a2 t240 t243 t246 t273 t276 t279 a0_0 a0_1 a0_2 l0_3 l0_4 l0_5 a1_0 a1_1 a1_2 l1_3 l1_4 l1_5 t247 t248 t249 t250 t253 t256 t260 t261 t262 t263 t266 t269) else (some false)))) = some r := by rw [if_neg (show ¬ (false = true) by decide)] at H; exact H
      clear H
      have H := H1
      clear H1
      replace H := Option.bind_eq_some_iff.mp H
      obtain ⟨⟨t282, t283, t284, t285, t288, t291⟩, A800, H⟩ := H
      (try dsimp only at H)
      have A80 := Aside0.mk A800
      clear A800
      replace H := Option.bind_eq_some_iff.mp H
      obtain ⟨t294, A810, H⟩ := H
      have A81 := Aside0.mk A810
      clear A810
      have HC82 := Aside0.mk H
      clear H
      try go_wp2
      have n0_ := Aside0.mk (Kd.R_drew HO_8.out)
      have n1_ := Aside0.mk (Kd.R_drew HO_9.out)
      have n2_ := Aside0.mk (Kd.R_drew HO_13.out)
      have n3_ := Aside0.mk (Kd.R_drew HO_14.out)
      have n4_ := Aside0.mk (Kd.R_drew HO_260003.out)
      have n5_ := Aside0.mk (Kd.R_drew HO_260004.out)
      have n6_ := Aside0.mk (Kd.R_drew HO_260005.out)
      have n7_ := Aside0.mk (Kd.R_drew HO_273003.out)
      have n8_ := Aside0.mk (Kd.R_drew HO_273004.out)
      have n9_ := Aside0.mk (Kd.R_drew HO_273005.out)
      have n10_ := Aside0.mk (blk_drew BK212.out)
      have n11_ := Aside0.mk (blk_drew BK213.out)
      have n12_ := Aside0.mk (blk_drew BK259.out)
      have n13_ := Aside0.mk (blk_drew BK272.out)
      have n14_ := Aside0.mk (below_drew1 HB.out)
      clear HO_8
      clear HO_9
      clear HO_13
      clear HO_14
      clear HO_260003
      clear HO_260004
      clear HO_260005
      clear HO_273003
      clear HO_273004
      clear HO_273005
      clear BK212
      clear BK213
      clear BK259
      clear BK272
      clear HB
      have HO_8 := n0_
      have HO_9 := n1_
      have HO_13 := n2_
      have HO_14 := n3_
      have HO_260003 := n4_
      have HO_260004 := n5_
      have HO_260005 := n6_
      have HO_273003 := n7_
      have HO_273004 := n8_
      have HO_273005 := n9_
      have BK212 := n10_
      have BK213 := n11_
      have BK259 := n12_
      have BK272 := n13_
      have HB := n14_
      clear n0_ n1_ n2_ n3_ n4_ n5_ n6_ n7_ n8_ n9_ n10_ n11_ n12_ n13_ n14_
      refine start_ (n := 5) (S := fun w' => w'.cell? ⟨gb259, 0, none⟩ = some (.int .i64 t247) ∧ w'.cell? ⟨gb259, 1, none⟩ = some (.int .i64 t248) ∧ w'.cell? ⟨gb259, 2, none⟩ = some (.int .i64 t249) ∧ w'.cell? ⟨gb259, 3, none⟩ = some (.slice Ao50 t250.length co50) ∧ w'.cell? ⟨gb259, 4, none⟩ = some (.slice Ao51 t253.length co51) ∧ w'.cell? ⟨gb259, 5, none⟩ = some (.slice Ao52 t256.length co52) ∧ w'.cell? ⟨gb212, 0, none⟩ = some (.int .i64 a0_0) ∧ w'.cell? ⟨gb212, 1, none⟩ = some (.int .i64 a0_1) ∧ w'.cell? ⟨gb212, 2, none⟩ = some (.int .i64 a0_2) ∧ w'.cell? ⟨gb212, 3, none⟩ = some (.slice A0_3 l0_3.length c0_3) ∧ w'.cell? ⟨gb212, 4, none⟩ = some (.slice A0_4 l0_4.length c0_4) ∧ w'.cell? ⟨gb212, 5, none⟩ = some (.slice A0_5 l0_5.length c0_5)) (ds := []) #[false, false, false, false, false] (by kernel_rfl) rfl rfl (ca6x7 BK259.out (cc6x7 BK212.out)) (fun hHeld => ?_)
      generalize wc.drew = w83 at HO_8 HO_9 HO_13 HO_14 HO_260003 HO_260004 HO_260005 HO_273003 HO_273004 HO_273005 BK212 BK213 BK259 BK272 HB hHeld ⊢
      refine take_ (i := 0) (N := some 69) (v := ?_) (a' := ?_) #[true, false, false, false, false] rfl rfl (by kernel_rfl) (fun _ _ _ h => h) (Or.inl ⟨by rfl, ?_⟩) hHeld ?_ ?_
      rotate_left
      ·rintro w' ⟨s0, s1, s2, s3, s4, s5, s6, s7, s8, s9, s10, s11⟩
       go_simp
       with_reducible rfl
      rotate_left
      ·simp only [Act.put, List.setIfInBounds_toArray, List.set_cons_zero, List.set_cons_succ, i64_w, i32_w]
       rfl
      refine take_ (i := 1) (N := some 70) (v := ?_) (a' := ?_) #[true, true, false, false, false] rfl rfl (by kernel_rfl) (fun _ _ _ h => h) (Or.inl ⟨by rfl, ?_⟩) hHeld ?_ ?_
      rotate_left
      ·rintro w' ⟨s0, s1, s2, s3, s4, s5, s6, s7, s8, s9, s10, s11⟩
       go_simp
       with_reducible rfl
      rotate_left
      ·simp only [Act.put, List.setIfInBounds_toArray, List.set_cons_zero, List.set_cons_succ, i64_w, i32_w]
       rfl
      refine one_ (i := 2) (N := some 71) #[true, true, true, false, false] rfl rfl (by kernel_rfl) (by decide) (fun K hK => ?_)
      refine goes_ Try.func24 (by kernel_rfl) rfl #[.agg #[.int .i64 a0_0, .int .i64 a0_1, .int .i64 a0_2, .slice A0_3 l0_3.length c0_3, .slice A0_4 l0_4.length c0_4, .slice A0_5 l0_5.length c0_5]] (by rfl) rfl rfl mpx7 ?_
      with_reducible refine (laws_toModel.calls kj25 a0_0 a0_1 a0_2 _ _ l0_3 _ _ l0_4 _ _ l0_5 t282 t283 t284 t285 t288 t291 _ ?side1 ?side2 ?side3 ?side4 ?side5 ?side6 A80.out).mono ?_
      (case side1 => exact rCx7 (Kd.C_below HR0_3.out HB.out))
      (case side2 => exact HC0_3.out)
      (case side3 => exact rCx7 (Kd.C_below HR0_4.out HB.out))
      (case side4 => exact HC0_4.out)
      (case side5 => exact rCx7 (Kd.C_below HR0_5.out HB.out))
      (case side6 => exact HC0_5.out)
      rintro e w84 ⟨v286, v289, v292, rfl, ho0, ho1, ho2, hb⟩
      refine ⟨_, rfl, ?_⟩
      have n0_ := Aside0.mk (kp3x7 (rRx7 HO_8.out) hb ho0 ho1 ho2)
      have n1_ := Aside0.mk (kp3x7 (rRx7 HO_9.out) hb ho0 ho1 ho2)
      have n2_ := Aside0.mk (kp3x7 (rRx7 HO_13.out) hb ho0 ho1 ho2)
      have n3_ := Aside0.mk (kp3x7 (rRx7 HO_14.out) hb ho0 ho1 ho2)
      have n4_ := Aside0.mk (kp3x7 (rRx7 HO_260003.out) hb ho0 ho1 ho2)
      have n5_ := Aside0.mk (kp3x7 (rRx7 HO_260004.out) hb ho0 ho1 ho2)
      have n6_ := Aside0.mk (kp3x7 (rRx7 HO_260005.out) hb ho0 ho1 ho2)
      have n7_ := Aside0.mk (kp3x7 (rRx7 HO_273003.out) hb ho0 ho1 ho2)
      have n8_ := Aside0.mk (kp3x7 (rRx7 HO_273004.out) hb ho0 ho1 ho2)
      have n9_ := Aside0.mk (kp3x7 (rRx7 HO_273005.out) hb ho0 ho1 ho2)
      have n10_ := Aside0.mk (Kd.R_lower (nwx7 (nwx7 (nwx7 (nwx7 (nwx7 (nwx7 (nwx7 (nwx7 (nwx7 (nwx7 ho0 (rRx7 HO_8.out)) (rRx7 HO_9.out)) (rRx7 HO_13.out)) (rRx7 HO_14.out)) (rRx7 HO_260003.out)) (rRx7 HO_260004.out)) (rRx7 HO_260005.out)) (rRx7 HO_273003.out)) (rRx7 HO_273004.out)) (rRx7 HO_273005.out)) (below_size (be4x7 HB.out GE212.out GE213.out GE259.out GE272.out)))
      have n11_ := Aside0.mk (Kd.R_lower (nwx7 (nwx7 (nwx7 (nwx7 (nwx7 (nwx7 (nwx7 (nwx7 (nwx7 (nwx7 ho1 (rRx7 HO_8.out)) (rRx7 HO_9.out)) (rRx7 HO_13.out)) (rRx7 HO_14.out)) (rRx7 HO_260003.out)) (rRx7 HO_260004.out)) (rRx7 HO_260005.out)) (rRx7 HO_273003.out)) (rRx7 HO_273004.out)) (rRx7 HO_273005.out)) (below_size (be4x7 HB.out GE212.out GE213.out GE259.out GE272.out)))
      have n12_ := Aside0.mk (Kd.R_lower (nwx7 (nwx7 (nwx7 (nwx7 (nwx7 (nwx7 (nwx7 (nwx7 (nwx7 (nwx7 ho2 (rRx7 HO_8.out)) (rRx7 HO_9.out)) (rRx7 HO_13.out)) (rRx7 HO_14.out)) (rRx7 HO_260003.out)) (rRx7 HO_260004.out)) (rRx7 HO_260005.out)) (rRx7 HO_273003.out)) (rRx7 HO_273004.out)) (rRx7 HO_273005.out)) (below_size (be4x7 HB.out GE212.out GE213.out GE259.out GE272.out)))
      have n13_ := Aside0.mk (blk_below (g := gb212) (o := .cells #[.int .i64 a0_0, .int .i64 a0_1, .int .i64 a0_2, .slice A0_3 l0_3.length c0_3, .slice A0_4 l0_4.length c0_4, .slice A0_5 l0_5.length c0_5] 38 (0, 0)) (rBx7 BK212.out) hb)
      have n14_ := Aside0.mk (blk_below (g := gb213) (o := .cells #[.int .i64 a1_0, .int .i64 a1_1, .int .i64 a1_2, .slice A1_3 l1_3.length c1_3, .slice A1_4 l1_4.length c1_4, .slice A1_5 l1_5.length c1_5] 38 (0, 0)) (rBx7 BK213.out) hb)
      have n15_ := Aside0.mk (blk_below (g := gb259) (o := .cells #[.int .i64 t247, .int .i64 t248, .int .i64 t249, .slice Ao50 t250.length co50, .slice Ao51 t253.length co51, .slice Ao52 t256.length co52] 44 (0, 0)) (rBx7 BK259.out) hb)
      have n16_ := Aside0.mk (blk_below (g := gb272) (o := .cells #[.int .i64 t260, .int .i64 t261, .int .i64 t262, .slice Ao60 t263.length co60, .slice Ao61 t266.length co61, .slice Ao62 t269.length co62] 44 (0, 0)) (rBx7 BK272.out) hb)
      have n17_ := Aside0.mk (below_step (be4x7 HB.out GE212.out GE213.out GE259.out GE272.out) hb)
      clear HO_8
      clear HO_9
      clear HO_13
      clear HO_14
      clear HO_260003
      clear HO_260004
      clear HO_260005
      clear HO_273003
      clear HO_273004
      clear HO_273005
      clear BK212
      clear BK213
      clear BK259
      clear BK272
      clear HB
      have HO_8 := n0_
      have HO_9 := n1_
      have HO_13 := n2_
      have HO_14 := n3_
      have HO_260003 := n4_
      have HO_260004 := n5_
      have HO_260005 := n6_
      have HO_273003 := n7_
      have HO_273004 := n8_
      have HO_273005 := n9_
      have HO287 := n10_
      have HO290 := n11_
      have HO293 := n12_
      have BK212 := n13_
      have BK213 := n14_
      have BK259 := n15_
      have BK272 := n16_
      have HB := n17_
      clear n0_ n1_ n2_ n3_ n4_ n5_ n6_ n7_ n8_ n9_ n10_ n11_ n12_ n13_ n14_ n15_ n16_ n17_
      (try clear hb)
      (try clear hb2)
      (try clear hk)
      (try clear hi)
      (try clear ho0)
      (try clear ho1)
      (try clear ho2)
      obtain ⟨Ao85, co85, eo85⟩ := Kd.R_slice HO287.out
      (first | subst eo85 | (injection eo85 with f1_ f2_ f3_; have f4_ := f1_.symm; have f5_ := f3_.symm; clear f1_ f2_ f3_; subst f4_; subst f5_))
      obtain ⟨Ao86, co86, eo86⟩ := Kd.R_slice HO290.out
      (first | subst eo86 | (injection eo86 with f1_ f2_ f3_; have f4_ := f1_.symm; have f5_ := f3_.symm; clear f1_ f2_ f3_; subst f4_; subst f5_))
      obtain ⟨Ao87, co87, eo87⟩ := Kd.R_slice HO293.out
      (first | subst eo87 | (injection eo87 with f1_ f2_ f3_; have f4_ := f1_.symm; have f5_ := f3_.symm; clear f1_ f2_ f3_; subst f4_; subst f5_))
      refine hK.out _ _ (ca6x7 BK259.out (cc6x7 BK212.out)) (fun hHeld => ?_)
      clear hK K
      refine norm_ (a' := ?_) ?_ ?_
      rotate_left
      ·show Act.put _ (some 71) _ = _
       simp only [Act.put, List.setIfInBounds_toArray, List.set_cons_zero, List.set_cons_succ, i64_w, i32_w]
       rfl
      refine one_ (i := 3) (N := some 72) #[true, true, true, true, false] rfl rfl (by kernel_rfl) (by decide) (fun K hK => ?_)
      refine goes_ Try.func26 (by kernel_rfl) rfl #[.agg #[.int .i64 t247, .int .i64 t248, .int .i64 t249, .slice Ao50 t250.length co50, .slice Ao51 t253.length co51, .slice Ao52 t256.length co52], .agg #[.int .i64 t282, .int .i64 t283, .int .i64 t284, .slice Ao85 t285.length co85, .slice Ao86 t288.length co86, .slice Ao87 t291.length co87]] (by rfl) rfl rfl mpx7 ?_
      with_reducible refine (laws_eqModel.calls kj25 t247 t248 t249 _ _ t250 _ _ t253 _ _ t256 t282 t283 t284 _ _ t285 _ _ t288 _ _ t291 t294 _ ?side1 ?side2 ?side3 ?side4 ?side5 ?side6 ?side7 ?side8 ?side9 ?side10 ?side11 ?side12 A81.out).mono ?_
      (case side1 => exact cRx7 HO_260003.out)
      (case side2 => exact (Kd.R_reads' HO_260003.out).2.1)
      (case side3 => exact cRx7 HO_260004.out)
      (case side4 => exact (Kd.R_reads' HO_260004.out).2.1)
      (case side5 => exact cRx7 HO_260005.out)
      (case side6 => exact (Kd.R_reads' HO_260005.out).2.1)
      (case side7 => exact cRx7 HO287.out)
      (case side8 => exact (Kd.R_reads' HO287.out).2.1)
      (case side9 => exact cRx7 HO290.out)
      (case side10 => exact (Kd.R_reads' HO290.out).2.1)
      (case side11 => exact cRx7 HO293.out)
      (case side12 => exact (Kd.R_reads' HO293.out).2.1)
      rintro e w88 ⟨rfl, hb⟩
      refine ⟨_, rfl, ?_⟩
      have n0_ := Aside0.mk (Kd.R_below (rRx7 HO_8.out) hb)
      have n1_ := Aside0.mk (Kd.R_below (rRx7 HO_9.out) hb)
      have n2_ := Aside0.mk (Kd.R_below (rRx7 HO_13.out) hb)
      have n3_ := Aside0.mk (Kd.R_below (rRx7 HO_14.out) hb)
      have n4_ := Aside0.mk (Kd.R_below (rRx7 HO_260003.out) hb)
      have n5_ := Aside0.mk (Kd.R_below (rRx7 HO_260004.out) hb)
      have n6_ := Aside0.mk (Kd.R_below (rRx7 HO_260005.out) hb)
      have n7_ := Aside0.mk (Kd.R_below (rRx7 HO_273003.out) hb)
      have n8_ := Aside0.mk (Kd.R_below (rRx7 HO_273004.out) hb)
      have n9_ := Aside0.mk (Kd.R_below (rRx7 HO_273005.out) hb)
      have n10_ := Aside0.mk (Kd.R_below (rRx7 HO287.out) hb)
      have n11_ := Aside0.mk (Kd.R_below (rRx7 HO290.out) hb)
      have n12_ := Aside0.mk (Kd.R_below (rRx7 HO293.out) hb)
      have n13_ := Aside0.mk (blk_below (g := gb212) (o := .cells #[.int .i64 a0_0, .int .i64 a0_1, .int .i64 a0_2, .slice A0_3 l0_3.length c0_3, .slice A0_4 l0_4.length c0_4, .slice A0_5 l0_5.length c0_5] 38 (0, 0)) (rBx7 BK212.out) hb)
      have n14_ := Aside0.mk (blk_below (g := gb213) (o := .cells #[.int .i64 a1_0, .int .i64 a1_1, .int .i64 a1_2, .slice A1_3 l1_3.length c1_3, .slice A1_4 l1_4.length c1_4, .slice A1_5 l1_5.length c1_5] 38 (0, 0)) (rBx7 BK213.out) hb)
      have n15_ := Aside0.mk (blk_below (g := gb259) (o := .cells #[.int .i64 t247, .int .i64 t248, .int .i64 t249, .slice Ao50 t250.length co50, .slice Ao51 t253.length co51, .slice Ao52 t256.length co52] 44 (0, 0)) (rBx7 BK259.out) hb)
      have n16_ := Aside0.mk (blk_below (g := gb272) (o := .cells #[.int .i64 t260, .int .i64 t261, .int .i64 t262, .slice Ao60 t263.length co60, .slice Ao61 t266.length co61, .slice Ao62 t269.length co62] 44 (0, 0)) (rBx7 BK272.out) hb)
      have n17_ := Aside0.mk (below_step (be4x7 HB.out GE212.out GE213.out GE259.out GE272.out) hb)
      clear HO_8
      clear HO_9
      clear HO_13
      clear HO_14
      clear HO_260003
      clear HO_260004
      clear HO_260005
      clear HO_273003
      clear HO_273004
      clear HO_273005
      clear HO287
      clear HO290
      clear HO293
      clear BK212
      clear BK213
      clear BK259
      clear BK272
      clear HB
      have HO_8 := n0_
      have HO_9 := n1_
      have HO_13 := n2_
      have HO_14 := n3_
      have HO_260003 := n4_
      have HO_260004 := n5_
      have HO_260005 := n6_
      have HO_273003 := n7_
      have HO_273004 := n8_
      have HO_273005 := n9_
      have HO287 := n10_
      have HO290 := n11_
      have HO293 := n12_
      have BK212 := n13_
      have BK213 := n14_
      have BK259 := n15_
      have BK272 := n16_
      have HB := n17_
      clear n0_ n1_ n2_ n3_ n4_ n5_ n6_ n7_ n8_ n9_ n10_ n11_ n12_ n13_ n14_ n15_ n16_ n17_
      (try clear hb)
      (try clear hb2)
      (try clear hk)
      (try clear hi)
      refine hK.out _ _ (ca6x7 BK259.out (cc6x7 BK212.out)) (fun hHeld => ?_)
      clear hK K
      refine norm_ (a' := ?_) ?_ ?_
      rotate_left
      ·show Act.put _ (some 72) _ = _
       simp only [Act.put, List.setIfInBounds_toArray, List.set_cons_zero, List.set_cons_succ, i64_w, i32_w]
       rfl
      refine pure_ (i := 4) (N := some 73) (v := ?_) (a' := ?_) #[true, true, true, true, true] rfl rfl (by kernel_rfl) (fun _ _ _ h => h) (Or.inl ⟨by rfl, ?_⟩) ?_ ?_
      rotate_left
      ·intro w'
       go_simp
       with_reducible rfl
      rotate_left
      ·simp only [Act.put, List.setIfInBounds_toArray, List.set_cons_zero, List.set_cons_succ, i64_w, i32_w]
       rfl
      refine done_ (by kernel_rfl) ?_
      go_upto_if 73 with (fail)
      go_cut [] (fun wc => ∃ (kq : Nat), Aside0 (laws_FnExactKindChanges.j1 kq a2 t240 t243 t246 t273 t276 t279 a0_0 a0_1 a0_2 l0_3 l0_4 l0_5 a1_0 a1_1 a1_2 l1_3 l1_4 l1_5 t247 t248 t249 t250 t253 t256 t260 t261 t262 t263 t266 t269 = some r) ∧ Aside0 (kq ≤ kj25) ∧ Aside0 (Kd.R (Kd.int .i64) 3 wc w.heap.size (fun k_ => some k_ ≠ (v244 : Value).ownBlock ∧ some k_ ≠ (v274 : Value).ownBlock ∧ some k_ ≠ (v277 : Value).ownBlock ∧ some k_ ≠ ((.slice Ao50 t250.length co50) : Value).ownBlock ∧ some k_ ≠ ((.slice Ao51 t253.length co51) : Value).ownBlock ∧ some k_ ≠ ((.slice Ao52 t256.length co52) : Value).ownBlock ∧ some k_ ≠ ((.slice Ao60 t263.length co60) : Value).ownBlock ∧ some k_ ≠ ((.slice Ao61 t266.length co61) : Value).ownBlock ∧ some k_ ≠ ((.slice Ao62 t269.length co62) : Value).ownBlock) v241 t240) ∧ Aside0 (Kd.R (Kd.int .i64) 3 wc w.heap.size (fun k_ => some k_ ≠ (v241 : Value).ownBlock ∧ some k_ ≠ (v274 : Value).ownBlock ∧ some k_ ≠ (v277 : Value).ownBlock ∧ some k_ ≠ ((.slice Ao50 t250.length co50) : Value).ownBlock ∧ some k_ ≠ ((.slice Ao51 t253.length co51) : Value).ownBlock ∧ some k_ ≠ ((.slice Ao52 t256.length co52) : Value).ownBlock ∧ some k_ ≠ ((.slice Ao60 t263.length co60) : Value).ownBlock ∧ some k_ ≠ ((.slice Ao61 t266.length co61) : Value).ownBlock ∧ some k_ ≠ ((.slice Ao62 t269.length co62) : Value).ownBlock) v244 t243) ∧ Aside0 (Kd.R (Kd.int .i64) 3 wc w.heap.size (fun k_ => some k_ ≠ (v241 : Value).ownBlock ∧ some k_ ≠ (v244 : Value).ownBlock ∧ some k_ ≠ (v277 : Value).ownBlock ∧ some k_ ≠ ((.slice Ao50 t250.length co50) : Value).ownBlock ∧ some k_ ≠ ((.slice Ao51 t253.length co51) : Value).ownBlock ∧ some k_ ≠ ((.slice Ao52 t256.length co52) : Value).ownBlock ∧ some k_ ≠ ((.slice Ao60 t263.length co60) : Value).ownBlock ∧ some k_ ≠ ((.slice Ao61 t266.length co61) : Value).ownBlock ∧ some k_ ≠ ((.slice Ao62 t269.length co62) : Value).ownBlock) v274 t273) ∧ Aside0 (Kd.R (Kd.int .i64) 3 wc w.heap.size (fun k_ => some k_ ≠ (v241 : Value).ownBlock ∧ some k_ ≠ (v244 : Value).ownBlock ∧ some k_ ≠ (v274 : Value).ownBlock ∧ some k_ ≠ ((.slice Ao50 t250.length co50) : Value).ownBlock ∧ some k_ ≠ ((.slice Ao51 t253.length co51) : Value).ownBlock ∧ some k_ ≠ ((.slice Ao52 t256.length co52) : Value).ownBlock ∧ some k_ ≠ ((.slice Ao60 t263.length co60) : Value).ownBlock ∧ some k_ ≠ ((.slice Ao61 t266.length co61) : Value).ownBlock ∧ some k_ ≠ ((.slice Ao62 t269.length co62) : Value).ownBlock) v277 t276) ∧ Aside0 (Kd.R (Kd.int .i64) 3 wc w.heap.size (fun k_ => some k_ ≠ (v241 : Value).ownBlock ∧ some k_ ≠ (v244 : Value).ownBlock ∧ some k_ ≠ (v274 : Value).ownBlock ∧ some k_ ≠ (v277 : Value).ownBlock ∧ some k_ ≠ ((.slice Ao51 t253.length co51) : Value).ownBlock ∧ some k_ ≠ ((.slice Ao52 t256.length co52) : Value).ownBlock ∧ some k_ ≠ ((.slice Ao60 t263.length co60) : Value).ownBlock ∧ some k_ ≠ ((.slice Ao61 t266.length co61) : Value).ownBlock ∧ some k_ ≠ ((.slice Ao62 t269.length co62) : Value).ownBlock) (.slice Ao50 t250.length co50) t250) ∧ Aside0 (Kd.R (Kd.int .i64) 3 wc w.heap.size (fun k_ => some k_ ≠ (v241 : Value).ownBlock ∧ some k_ ≠ (v244 : Value).ownBlock ∧ some k_ ≠ (v274 : Value).ownBlock ∧ some k_ ≠ (v277 : Value).ownBlock ∧ some k_ ≠ ((.slice Ao50 t250.length co50) : Value).ownBlock ∧ some k_ ≠ ((.slice Ao52 t256.length co52) : Value).ownBlock ∧ some k_ ≠ ((.slice Ao60 t263.length co60) : Value).ownBlock ∧ some k_ ≠ ((.slice Ao61 t266.length co61) : Value).ownBlock ∧ some k_ ≠ ((.slice Ao62 t269.length co62) : Value).ownBlock) (.slice Ao51 t253.length co51) t253) ∧ Aside0 (Kd.R (Kd.int .i64) 3 wc w.heap.size (fun k_ => some k_ ≠ (v241 : Value).ownBlock ∧ some k_ ≠ (v244 : Value).ownBlock ∧ some k_ ≠ (v274 : Value).ownBlock ∧ some k_ ≠ (v277 : Value).ownBlock ∧ some k_ ≠ ((.slice Ao50 t250.length co50) : Value).ownBlock ∧ some k_ ≠ ((.slice Ao51 t253.length co51) : Value).ownBlock ∧ some k_ ≠ ((.slice Ao60 t263.length co60) : Value).ownBlock ∧ some k_ ≠ ((.slice Ao61 t266.length co61) : Value).ownBlock ∧ some k_ ≠ ((.slice Ao62 t269.length co62) : Value).ownBlock) (.slice Ao52 t256.length co52) t256) ∧ Aside0 (Kd.R (Kd.int .i64) 3 wc w.heap.size (fun k_ => some k_ ≠ (v241 : Value).ownBlock ∧ some k_ ≠ (v244 : Value).ownBlock ∧ some k_ ≠ (v274 : Value).ownBlock ∧ some k_ ≠ (v277 : Value).ownBlock ∧ some k_ ≠ ((.slice Ao50 t250.length co50) : Value).ownBlock ∧ some k_ ≠ ((.slice Ao51 t253.length co51) : Value).ownBlock ∧ some k_ ≠ ((.slice Ao52 t256.length co52) : Value).ownBlock ∧ some k_ ≠ ((.slice Ao61 t266.length co61) : Value).ownBlock ∧ some k_ ≠ ((.slice Ao62 t269.length co62) : Value).ownBlock) (.slice Ao60 t263.length co60) t263) ∧ Aside0 (Kd.R (Kd.int .i64) 3 wc w.heap.size (fun k_ => some k_ ≠ (v241 : Value).ownBlock ∧ some k_ ≠ (v244 : Value).ownBlock ∧ some k_ ≠ (v274 : Value).ownBlock ∧ some k_ ≠ (v277 : Value).ownBlock ∧ some k_ ≠ ((.slice Ao50 t250.length co50) : Value).ownBlock ∧ some k_ ≠ ((.slice Ao51 t253.length co51) : Value).ownBlock ∧ some k_ ≠ ((.slice Ao52 t256.length co52) : Value).ownBlock ∧ some k_ ≠ ((.slice Ao60 t263.length co60) : Value).ownBlock ∧ some k_ ≠ ((.slice Ao62 t269.length co62) : Value).ownBlock) (.slice Ao61 t266.length co61) t266) ∧ Aside0 (Kd.R (Kd.int .i64) 3 wc w.heap.size (fun k_ => some k_ ≠ (v241 : Value).ownBlock ∧ some k_ ≠ (v244 : Value).ownBlock ∧ some k_ ≠ (v274 : Value).ownBlock ∧ some k_ ≠ (v277 : Value).ownBlock ∧ some k_ ≠ ((.slice Ao50 t250.length co50) : Value).ownBlock ∧ some k_ ≠ ((.slice Ao51 t253.length co51) : Value).ownBlock ∧ some k_ ≠ ((.slice Ao52 t256.length co52) : Value).ownBlock ∧ some k_ ≠ ((.slice Ao60 t263.length co60) : Value).ownBlock ∧ some k_ ≠ ((.slice Ao61 t266.length co61) : Value).ownBlock) (.slice Ao62 t269.length co62) t269) ∧ Aside0 (wc.heap[gb212]? = some (.cells #[.int .i64 a0_0, .int .i64 a0_1, .int .i64 a0_2, (.slice A0_3 l0_3.length c0_3), (.slice A0_4 l0_4.length c0_4), (.slice A0_5 l0_5.length c0_5)] 38 (0, 0))) ∧ Aside0 (wc.heap[gb213]? = some (.cells #[.int .i64 a1_0, .int .i64 a1_1, .int .i64 a1_2, (.slice A1_3 l1_3.length c1_3), (.slice A1_4 l1_4.length c1_4), (.slice A1_5 l1_5.length c1_5)] 38 (0, 0))) ∧ Aside0 (wc.heap[gb259]? = some (.cells #[.int .i64 t247, .int .i64 t248, .int .i64 t249, (.slice Ao50 t250.length co50), (.slice Ao51 t253.length co51), (.slice Ao52 t256.length co52)] 44 (0, 0))) ∧ Aside0 (wc.heap[gb272]? = some (.cells #[.int .i64 t260, .int .i64 t261, .int .i64 t262, (.slice Ao60 t263.length co60), (.slice Ao61 t266.length co61), (.slice Ao62 t269.length co62)] 44 (0, 0))) ∧ Aside0 (Below w.heap.size w wc))
      case first =>
       have H := HC82.out
       clear HC82
       by_cases c89 : t294 = true
       ·subst c89
        have H1 : (laws_FnExactKindChanges.j1 kj25 a2 t240 t243 t246 t273 t276 t279 a0_0 a0_1 a0_2 l0_3 l0_4 l0_5 a1_0 a1_1 a1_2 l1_3 l1_4 l1_5 t247 t248 t249 t250 t253 t256 t260 t261 t262 t263 t266 t269) = some r := by rw [if_pos rfl] at H; exact H
        clear H
        have H := H1
        clear H1
        have H' := Aside0.mk H
        clear H
        go_wp2
        go_meet
        case rel => exact ⟨_, H', ⟨by have := HJ25.out; first | omega | exact Nat.le_refl _⟩, ⟨by exact rRx7 (mox7 HO_8.out)⟩, ⟨by exact rRx7 (mox7 HO_9.out)⟩, ⟨by exact rRx7 (mox7 HO_13.out)⟩, ⟨by exact rRx7 (mox7 HO_14.out)⟩, ⟨by exact rRx7 (mox7 HO_260003.out)⟩, ⟨by exact rRx7 (mox7 HO_260004.out)⟩, ⟨by exact rRx7 (mox7 HO_260005.out)⟩, ⟨by exact rRx7 (mox7 HO_273003.out)⟩, ⟨by exact rRx7 (mox7 HO_273004.out)⟩, ⟨by exact rRx7 (mox7 HO_273005.out)⟩, ⟨rBx7 BK212.out⟩, ⟨rBx7 BK213.out⟩, ⟨rBx7 BK259.out⟩, ⟨rBx7 BK272.out⟩, ⟨be4x7 HB.out GE212.out GE213.out GE259.out GE272.out⟩⟩
       ·replace c89 := Bool.eq_false_iff.mpr c89
        subst c89
        have H1 : (some false) = some r := by rw [if_neg (show ¬ (false = true) by decide)] at H; exact H
        clear H
        have H := H1
        clear H1
        obtain rfl := Option.some.inj H
        go_wp2
        go_ret
        exact ⟨by first | rfl | (simp [errW_none, errW_some] <;> rfl) | (simp [*, errW_none, errW_some] <;> rfl), be4x7 HB.out GE212.out GE213.out GE259.out GE272.out⟩
      case rest =>
       clear HC82
       try clear c79; try clear c89
       obtain ⟨kq, HA, HJ81, HO_8, HO_9, HO_13, HO_14, HO_260003, HO_260004, HO_260005, HO_273003, HO_273004, HO_273005, BK212, BK213, BK259, BK272, HB⟩ := hcut
       cases kq with
       | zero => exact absurd HA.out (by simp [laws_FnExactKindChanges.j1])
       | succ kj81 =>
        have H := HA.out
        clear HA
        simp only [laws_FnExactKindChanges.j1] at H
        replace H := Option.bind_eq_some_iff.mp H
        obtain ⟨⟨t295, t296, t297, t298, t301, t304⟩, A900, H⟩ := H
        (try dsimp only at H)
        have A90 := Aside0.mk A900
        clear A900
        replace H := Option.bind_eq_some_iff.mp H
        obtain ⟨t307, A910, H⟩ := H
        have A91 := Aside0.mk A910
        clear A910
        have HC92 := Aside0.mk H
        clear H
        try go_wp2
        have n0_ := Aside0.mk (Kd.R_drew HO_8.out)
        have n1_ := Aside0.mk (Kd.R_drew HO_9.out)
        have n2_ := Aside0.mk (Kd.R_drew HO_13.out)
        have n3_ := Aside0.mk (Kd.R_drew HO_14.out)
        have n4_ := Aside0.mk (Kd.R_drew HO_260003.out)
        have n5_ := Aside0.mk (Kd.R_drew HO_260004.out)
        have n6_ := Aside0.mk (Kd.R_drew HO_260005.out)
        have n7_ := Aside0.mk (Kd.R_drew HO_273003.out)
        have n8_ := Aside0.mk (Kd.R_drew HO_273004.out)
        have n9_ := Aside0.mk (Kd.R_drew HO_273005.out)
        have n10_ := Aside0.mk (blk_drew BK212.out)
        have n11_ := Aside0.mk (blk_drew BK213.out)
        have n12_ := Aside0.mk (blk_drew BK259.out)
        have n13_ := Aside0.mk (blk_drew BK272.out)
        have n14_ := Aside0.mk (below_drew1 HB.out)
        clear HO_8
        clear HO_9
        clear HO_13
        clear HO_14
        clear HO_260003
        clear HO_260004
        clear HO_260005
        clear HO_273003
        clear HO_273004
        clear HO_273005
        clear BK212
        clear BK213
        clear BK259
        clear BK272
        clear HB
        have HO_8 := n0_
        have HO_9 := n1_
        have HO_13 := n2_
        have HO_14 := n3_
        have HO_260003 := n4_
        have HO_260004 := n5_
        have HO_260005 := n6_
        have HO_273003 := n7_
        have HO_273004 := n8_
        have HO_273005 := n9_
        have BK212 := n10_
        have BK213 := n11_
        have BK259 := n12_
        have BK272 := n13_
        have HB := n14_
        clear n0_ n1_ n2_ n3_ n4_ n5_ n6_ n7_ n8_ n9_ n10_ n11_ n12_ n13_ n14_
        refine start_ (n := 5) (S := fun w' => w'.cell? ⟨gb272, 0, none⟩ = some (.int .i64 t260) ∧ w'.cell? ⟨gb272, 1, none⟩ = some (.int .i64 t261) ∧ w'.cell? ⟨gb272, 2, none⟩ = some (.int .i64 t262) ∧ w'.cell? ⟨gb272, 3, none⟩ = some (.slice Ao60 t263.length co60) ∧ w'.cell? ⟨gb272, 4, none⟩ = some (.slice Ao61 t266.length co61) ∧ w'.cell? ⟨gb272, 5, none⟩ = some (.slice Ao62 t269.length co62) ∧ w'.cell? ⟨gb213, 0, none⟩ = some (.int .i64 a1_0) ∧ w'.cell? ⟨gb213, 1, none⟩ = some (.int .i64 a1_1) ∧ w'.cell? ⟨gb213, 2, none⟩ = some (.int .i64 a1_2) ∧ w'.cell? ⟨gb213, 3, none⟩ = some (.slice A1_3 l1_3.length c1_3) ∧ w'.cell? ⟨gb213, 4, none⟩ = some (.slice A1_4 l1_4.length c1_4) ∧ w'.cell? ⟨gb213, 5, none⟩ = some (.slice A1_5 l1_5.length c1_5)) (ds := []) #[false, false, false, false, false] (by kernel_rfl) rfl rfl (ca6x7 BK272.out (cc6x7 BK213.out)) (fun hHeld => ?_)
        generalize wc.drew = w93 at HO_8 HO_9 HO_13 HO_14 HO_260003 HO_260004 HO_260005 HO_273003 HO_273004 HO_273005 BK212 BK213 BK259 BK272 HB hHeld ⊢
        refine take_ (i := 0) (N := some 74) (v := ?_) (a' := ?_) #[true, false, false, false, false] rfl rfl (by kernel_rfl) (fun _ _ _ h => h) (Or.inl ⟨by rfl, ?_⟩) hHeld ?_ ?_
        rotate_left
        ·rintro w' ⟨s0, s1, s2, s3, s4, s5, s6, s7, s8, s9, s10, s11⟩
         go_simp
         with_reducible rfl
        rotate_left
        ·simp only [Act.put, List.setIfInBounds_toArray, List.set_cons_zero, List.set_cons_succ, i64_w, i32_w]
         rfl
        refine take_ (i := 1) (N := some 75) (v := ?_) (a' := ?_) #[true, true, false, false, false] rfl rfl (by kernel_rfl) (fun _ _ _ h => h) (Or.inl ⟨by rfl, ?_⟩) hHeld ?_ ?_
        rotate_left
        ·rintro w' ⟨s0, s1, s2, s3, s4, s5, s6, s7, s8, s9, s10, s11⟩
         go_simp
         with_reducible rfl
        rotate_left
        ·simp only [Act.put, List.setIfInBounds_toArray, List.set_cons_zero, List.set_cons_succ, i64_w, i32_w]
         rfl
        refine one_ (i := 2) (N := some 76) #[true, true, true, false, false] rfl rfl (by kernel_rfl) (by decide) (fun K hK => ?_)
        refine goes_ Try.func24 (by kernel_rfl) rfl #[.agg #[.int .i64 a1_0, .int .i64 a1_1, .int .i64 a1_2, .slice A1_3 l1_3.length c1_3, .slice A1_4 l1_4.length c1_4, .slice A1_5 l1_5.length c1_5]] (by rfl) rfl rfl mpx7 ?_
        with_reducible refine (laws_toModel.calls kj81 a1_0 a1_1 a1_2 _ _ l1_3 _ _ l1_4 _ _ l1_5 t295 t296 t297 t298 t301 t304 _ ?side1 ?side2 ?side3 ?side4 ?side5 ?side6 A90.out).mono ?_
        (case side1 => exact rCx7 (Kd.C_below HR1_3.out HB.out))
        (case side2 => exact HC1_3.out)
        (case side3 => exact rCx7 (Kd.C_below HR1_4.out HB.out))
        (case side4 => exact HC1_4.out)
        (case side5 => exact rCx7 (Kd.C_below HR1_5.out HB.out))
        (case side6 => exact HC1_5.out)
        rintro e w94 ⟨v299, v302, v305, rfl, ho0, ho1, ho2, hb⟩
        refine ⟨_, rfl, ?_⟩
        have n0_ := Aside0.mk (kp3x7 (rRx7 HO_8.out) hb ho0 ho1 ho2)
        have n1_ := Aside0.mk (kp3x7 (rRx7 HO_9.out) hb ho0 ho1 ho2)
        have n2_ := Aside0.mk (kp3x7 (rRx7 HO_13.out) hb ho0 ho1 ho2)
        have n3_ := Aside0.mk (kp3x7 (rRx7 HO_14.out) hb ho0 ho1 ho2)
        have n4_ := Aside0.mk (kp3x7 (rRx7 HO_260003.out) hb ho0 ho1 ho2)
        have n5_ := Aside0.mk (kp3x7 (rRx7 HO_260004.out) hb ho0 ho1 ho2)
        have n6_ := Aside0.mk (kp3x7 (rRx7 HO_260005.out) hb ho0 ho1 ho2)
        have n7_ := Aside0.mk (kp3x7 (rRx7 HO_273003.out) hb ho0 ho1 ho2)
        have n8_ := Aside0.mk (kp3x7 (rRx7 HO_273004.out) hb ho0 ho1 ho2)
        have n9_ := Aside0.mk (kp3x7 (rRx7 HO_273005.out) hb ho0 ho1 ho2)
        have n10_ := Aside0.mk (Kd.R_lower (nwx7 (nwx7 (nwx7 (nwx7 (nwx7 (nwx7 (nwx7 (nwx7 (nwx7 (nwx7 ho0 (rRx7 HO_8.out)) (rRx7 HO_9.out)) (rRx7 HO_13.out)) (rRx7 HO_14.out)) (rRx7 HO_260003.out)) (rRx7 HO_260004.out)) (rRx7 HO_260005.out)) (rRx7 HO_273003.out)) (rRx7 HO_273004.out)) (rRx7 HO_273005.out)) (below_size (be4x7 HB.out GE212.out GE213.out GE259.out GE272.out)))
        have n11_ := Aside0.mk (Kd.R_lower (nwx7 (nwx7 (nwx7 (nwx7 (nwx7 (nwx7 (nwx7 (nwx7 (nwx7 (nwx7 ho1 (rRx7 HO_8.out)) (rRx7 HO_9.out)) (rRx7 HO_13.out)) (rRx7 HO_14.out)) (rRx7 HO_260003.out)) (rRx7 HO_260004.out)) (rRx7 HO_260005.out)) (rRx7 HO_273003.out)) (rRx7 HO_273004.out)) (rRx7 HO_273005.out)) (below_size (be4x7 HB.out GE212.out GE213.out GE259.out GE272.out)))
        have n12_ := Aside0.mk (Kd.R_lower (nwx7 (nwx7 (nwx7 (nwx7 (nwx7 (nwx7 (nwx7 (nwx7 (nwx7 (nwx7 ho2 (rRx7 HO_8.out)) (rRx7 HO_9.out)) (rRx7 HO_13.out)) (rRx7 HO_14.out)) (rRx7 HO_260003.out)) (rRx7 HO_260004.out)) (rRx7 HO_260005.out)) (rRx7 HO_273003.out)) (rRx7 HO_273004.out)) (rRx7 HO_273005.out)) (below_size (be4x7 HB.out GE212.out GE213.out GE259.out GE272.out)))
        have n13_ := Aside0.mk (blk_below (g := gb212) (o := .cells #[.int .i64 a0_0, .int .i64 a0_1, .int .i64 a0_2, .slice A0_3 l0_3.length c0_3, .slice A0_4 l0_4.length c0_4, .slice A0_5 l0_5.length c0_5] 38 (0, 0)) (rBx7 BK212.out) hb)
        have n14_ := Aside0.mk (blk_below (g := gb213) (o := .cells #[.int .i64 a1_0, .int .i64 a1_1, .int .i64 a1_2, .slice A1_3 l1_3.length c1_3, .slice A1_4 l1_4.length c1_4, .slice A1_5 l1_5.length c1_5] 38 (0, 0)) (rBx7 BK213.out) hb)
        have n15_ := Aside0.mk (blk_below (g := gb259) (o := .cells #[.int .i64 t247, .int .i64 t248, .int .i64 t249, .slice Ao50 t250.length co50, .slice Ao51 t253.length co51, .slice Ao52 t256.length co52] 44 (0, 0)) (rBx7 BK259.out) hb)
        have n16_ := Aside0.mk (blk_below (g := gb272) (o := .cells #[.int .i64 t260, .int .i64 t261, .int .i64 t262, .slice Ao60 t263.length co60, .slice Ao61 t266.length co61, .slice Ao62 t269.length co62] 44 (0, 0)) (rBx7 BK272.out) hb)
        have n17_ := Aside0.mk (below_step (be4x7 HB.out GE212.out GE213.out GE259.out GE272.out) hb)
        clear HO_8
        clear HO_9
        clear HO_13
        clear HO_14
        clear HO_260003
        clear HO_260004
        clear HO_260005
        clear HO_273003
        clear HO_273004
        clear HO_273005
        clear BK212
        clear BK213
        clear BK259
        clear BK272
        clear HB
        have HO_8 := n0_
        have HO_9 := n1_
        have HO_13 := n2_
        have HO_14 := n3_
        have HO_260003 := n4_
        have HO_260004 := n5_
        have HO_260005 := n6_
        have HO_273003 := n7_
        have HO_273004 := n8_
        have HO_273005 := n9_
        have HO300 := n10_
        have HO303 := n11_
        have HO306 := n12_
        have BK212 := n13_
        have BK213 := n14_
        have BK259 := n15_
        have BK272 := n16_
        have HB := n17_
        clear n0_ n1_ n2_ n3_ n4_ n5_ n6_ n7_ n8_ n9_ n10_ n11_ n12_ n13_ n14_ n15_ n16_ n17_
        (try clear hb)
        (try clear hb2)
        (try clear hk)
        (try clear hi)
        (try clear ho0)
        (try clear ho1)
        (try clear ho2)
        obtain ⟨Ao95, co95, eo95⟩ := Kd.R_slice HO300.out
        (first | subst eo95 | (injection eo95 with f1_ f2_ f3_; have f4_ := f1_.symm; have f5_ := f3_.symm; clear f1_ f2_ f3_; subst f4_; subst f5_))
        obtain ⟨Ao96, co96, eo96⟩ := Kd.R_slice HO303.out
        (first | subst eo96 | (injection eo96 with f1_ f2_ f3_; have f4_ := f1_.symm; have f5_ := f3_.symm; clear f1_ f2_ f3_; subst f4_; subst f5_))
        obtain ⟨Ao97, co97, eo97⟩ := Kd.R_slice HO306.out
        (first | subst eo97 | (injection eo97 with f1_ f2_ f3_; have f4_ := f1_.symm; have f5_ := f3_.symm; clear f1_ f2_ f3_; subst f4_; subst f5_))
        refine hK.out _ _ (ca6x7 BK272.out (cc6x7 BK213.out)) (fun hHeld => ?_)
        clear hK K
        refine norm_ (a' := ?_) ?_ ?_
        rotate_left
        ·show Act.put _ (some 76) _ = _
         simp only [Act.put, List.setIfInBounds_toArray, List.set_cons_zero, List.set_cons_succ, i64_w, i32_w]
         rfl
        refine one_ (i := 3) (N := some 77) #[true, true, true, true, false] rfl rfl (by kernel_rfl) (by decide) (fun K hK => ?_)
        refine goes_ Try.func26 (by kernel_rfl) rfl #[.agg #[.int .i64 t260, .int .i64 t261, .int .i64 t262, .slice Ao60 t263.length co60, .slice Ao61 t266.length co61, .slice Ao62 t269.length co62], .agg #[.int .i64 t295, .int .i64 t296, .int .i64 t297, .slice Ao95 t298.length co95, .slice Ao96 t301.length co96, .slice Ao97 t304.length co97]] (by rfl) rfl rfl mpx7 ?_
        with_reducible refine (laws_eqModel.calls kj81 t260 t261 t262 _ _ t263 _ _ t266 _ _ t269 t295 t296 t297 _ _ t298 _ _ t301 _ _ t304 t307 _ ?side1 ?side2 ?side3 ?side4 ?side5 ?side6 ?side7 ?side8 ?side9 ?side10 ?side11 ?side12 A91.out).mono ?_
        (case side1 => exact cRx7 HO_273003.out)
        (case side2 => exact (Kd.R_reads' HO_273003.out).2.1)
        (case side3 => exact cRx7 HO_273004.out)
        (case side4 => exact (Kd.R_reads' HO_273004.out).2.1)
        (case side5 => exact cRx7 HO_273005.out)
        (case side6 => exact (Kd.R_reads' HO_273005.out).2.1)
        (case side7 => exact cRx7 HO300.out)
        (case side8 => exact (Kd.R_reads' HO300.out).2.1)
        (case side9 => exact cRx7 HO303.out)
        (case side10 => exact (Kd.R_reads' HO303.out).2.1)
        (case side11 => exact cRx7 HO306.out)
        (case side12 => exact (Kd.R_reads' HO306.out).2.1)
        rintro e w98 ⟨rfl, hb⟩
        refine ⟨_, rfl, ?_⟩
        have n0_ := Aside0.mk (Kd.R_below (rRx7 HO_8.out) hb)
        have n1_ := Aside0.mk (Kd.R_below (rRx7 HO_9.out) hb)
        have n2_ := Aside0.mk (Kd.R_below (rRx7 HO_13.out) hb)
        have n3_ := Aside0.mk (Kd.R_below (rRx7 HO_14.out) hb)
        have n4_ := Aside0.mk (Kd.R_below (rRx7 HO_260003.out) hb)
        have n5_ := Aside0.mk (Kd.R_below (rRx7 HO_260004.out) hb)
        have n6_ := Aside0.mk (Kd.R_below (rRx7 HO_260005.out) hb)
        have n7_ := Aside0.mk (Kd.R_below (rRx7 HO_273003.out) hb)
        have n8_ := Aside0.mk (Kd.R_below (rRx7 HO_273004.out) hb)
        have n9_ := Aside0.mk (Kd.R_below (rRx7 HO_273005.out) hb)
        have n10_ := Aside0.mk (Kd.R_below (rRx7 HO300.out) hb)
        have n11_ := Aside0.mk (Kd.R_below (rRx7 HO303.out) hb)
        have n12_ := Aside0.mk (Kd.R_below (rRx7 HO306.out) hb)
        have n13_ := Aside0.mk (blk_below (g := gb212) (o := .cells #[.int .i64 a0_0, .int .i64 a0_1, .int .i64 a0_2, .slice A0_3 l0_3.length c0_3, .slice A0_4 l0_4.length c0_4, .slice A0_5 l0_5.length c0_5] 38 (0, 0)) (rBx7 BK212.out) hb)
        have n14_ := Aside0.mk (blk_below (g := gb213) (o := .cells #[.int .i64 a1_0, .int .i64 a1_1, .int .i64 a1_2, .slice A1_3 l1_3.length c1_3, .slice A1_4 l1_4.length c1_4, .slice A1_5 l1_5.length c1_5] 38 (0, 0)) (rBx7 BK213.out) hb)
        have n15_ := Aside0.mk (blk_below (g := gb259) (o := .cells #[.int .i64 t247, .int .i64 t248, .int .i64 t249, .slice Ao50 t250.length co50, .slice Ao51 t253.length co51, .slice Ao52 t256.length co52] 44 (0, 0)) (rBx7 BK259.out) hb)
        have n16_ := Aside0.mk (blk_below (g := gb272) (o := .cells #[.int .i64 t260, .int .i64 t261, .int .i64 t262, .slice Ao60 t263.length co60, .slice Ao61 t266.length co61, .slice Ao62 t269.length co62] 44 (0, 0)) (rBx7 BK272.out) hb)
        have n17_ := Aside0.mk (below_step (be4x7 HB.out GE212.out GE213.out GE259.out GE272.out) hb)
        clear HO_8
        clear HO_9
        clear HO_13
        clear HO_14
        clear HO_260003
        clear HO_260004
        clear HO_260005
        clear HO_273003
        clear HO_273004
        clear HO_273005
        clear HO300
        clear HO303
        clear HO306
        clear BK212
        clear BK213
        clear BK259
        clear BK272
        clear HB
        have HO_8 := n0_
        have HO_9 := n1_
        have HO_13 := n2_
        have HO_14 := n3_
        have HO_260003 := n4_
        have HO_260004 := n5_
        have HO_260005 := n6_
        have HO_273003 := n7_
        have HO_273004 := n8_
        have HO_273005 := n9_
        have HO300 := n10_
        have HO303 := n11_
        have HO306 := n12_
        have BK212 := n13_
        have BK213 := n14_
        have BK259 := n15_
        have BK272 := n16_
        have HB := n17_
        clear n0_ n1_ n2_ n3_ n4_ n5_ n6_ n7_ n8_ n9_ n10_ n11_ n12_ n13_ n14_ n15_ n16_ n17_
        (try clear hb)
        (try clear hb2)
        (try clear hk)
        (try clear hi)
        refine hK.out _ _ (ca6x7 BK272.out (cc6x7 BK213.out)) (fun hHeld => ?_)
        clear hK K
        refine norm_ (a' := ?_) ?_ ?_
        rotate_left
        ·show Act.put _ (some 77) _ = _
         simp only [Act.put, List.setIfInBounds_toArray, List.set_cons_zero, List.set_cons_succ, i64_w, i32_w]
         rfl
        refine pure_ (i := 4) (N := some 78) (v := ?_) (a' := ?_) #[true, true, true, true, true] rfl rfl (by kernel_rfl) (fun _ _ _ h => h) (Or.inl ⟨by rfl, ?_⟩) ?_ ?_
        rotate_left
        ·intro w'
         go_simp
         with_reducible rfl
        rotate_left
        ·simp only [Act.put, List.setIfInBounds_toArray, List.set_cons_zero, List.set_cons_succ, i64_w, i32_w]
         rfl
        refine done_ (by kernel_rfl) ?_
        go_upto_if 78 with (fail)
        go_cut [] (fun wc => ∃ (kq : Nat), Aside0 (laws_FnExactKindChanges.j2 kq a2 t240 t243 t246 t273 t276 t279 a0_0 a0_1 a0_2 l0_3 l0_4 l0_5 a1_0 a1_1 a1_2 l1_3 l1_4 l1_5 t247 t248 t249 t250 t253 t256 t260 t261 t262 t263 t266 t269 = some r) ∧ Aside0 (kq ≤ kj81) ∧ Aside0 (Kd.R (Kd.int .i64) 3 wc w.heap.size (fun k_ => some k_ ≠ (v244 : Value).ownBlock ∧ some k_ ≠ (v274 : Value).ownBlock ∧ some k_ ≠ (v277 : Value).ownBlock ∧ some k_ ≠ ((.slice Ao50 t250.length co50) : Value).ownBlock ∧ some k_ ≠ ((.slice Ao51 t253.length co51) : Value).ownBlock ∧ some k_ ≠ ((.slice Ao52 t256.length co52) : Value).ownBlock ∧ some k_ ≠ ((.slice Ao60 t263.length co60) : Value).ownBlock ∧ some k_ ≠ ((.slice Ao61 t266.length co61) : Value).ownBlock ∧ some k_ ≠ ((.slice Ao62 t269.length co62) : Value).ownBlock) v241 t240) ∧ Aside0 (Kd.R (Kd.int .i64) 3 wc w.heap.size (fun k_ => some k_ ≠ (v241 : Value).ownBlock ∧ some k_ ≠ (v274 : Value).ownBlock ∧ some k_ ≠ (v277 : Value).ownBlock ∧ some k_ ≠ ((.slice Ao50 t250.length co50) : Value).ownBlock ∧ some k_ ≠ ((.slice Ao51 t253.length co51) : Value).ownBlock ∧ some k_ ≠ ((.slice Ao52 t256.length co52) : Value).ownBlock ∧ some k_ ≠ ((.slice Ao60 t263.length co60) : Value).ownBlock ∧ some k_ ≠ ((.slice Ao61 t266.length co61) : Value).ownBlock ∧ some k_ ≠ ((.slice Ao62 t269.length co62) : Value).ownBlock) v244 t243) ∧ Aside0 (Kd.R (Kd.int .i64) 3 wc w.heap.size (fun k_ => some k_ ≠ (v241 : Value).ownBlock ∧ some k_ ≠ (v244 : Value).ownBlock ∧ some k_ ≠ (v277 : Value).ownBlock ∧ some k_ ≠ ((.slice Ao50 t250.length co50) : Value).ownBlock ∧ some k_ ≠ ((.slice Ao51 t253.length co51) : Value).ownBlock ∧ some k_ ≠ ((.slice Ao52 t256.length co52) : Value).ownBlock ∧ some k_ ≠ ((.slice Ao60 t263.length co60) : Value).ownBlock ∧ some k_ ≠ ((.slice Ao61 t266.length co61) : Value).ownBlock ∧ some k_ ≠ ((.slice Ao62 t269.length co62) : Value).ownBlock) v274 t273) ∧ Aside0 (Kd.R (Kd.int .i64) 3 wc w.heap.size (fun k_ => some k_ ≠ (v241 : Value).ownBlock ∧ some k_ ≠ (v244 : Value).ownBlock ∧ some k_ ≠ (v274 : Value).ownBlock ∧ some k_ ≠ ((.slice Ao50 t250.length co50) : Value).ownBlock ∧ some k_ ≠ ((.slice Ao51 t253.length co51) : Value).ownBlock ∧ some k_ ≠ ((.slice Ao52 t256.length co52) : Value).ownBlock ∧ some k_ ≠ ((.slice Ao60 t263.length co60) : Value).ownBlock ∧ some k_ ≠ ((.slice Ao61 t266.length co61) : Value).ownBlock ∧ some k_ ≠ ((.slice Ao62 t269.length co62) : Value).ownBlock) v277 t276) ∧ Aside0 (Kd.R (Kd.int .i64) 3 wc w.heap.size (fun k_ => some k_ ≠ (v241 : Value).ownBlock ∧ some k_ ≠ (v244 : Value).ownBlock ∧ some k_ ≠ (v274 : Value).ownBlock ∧ some k_ ≠ (v277 : Value).ownBlock ∧ some k_ ≠ ((.slice Ao51 t253.length co51) : Value).ownBlock ∧ some k_ ≠ ((.slice Ao52 t256.length co52) : Value).ownBlock ∧ some k_ ≠ ((.slice Ao60 t263.length co60) : Value).ownBlock ∧ some k_ ≠ ((.slice Ao61 t266.length co61) : Value).ownBlock ∧ some k_ ≠ ((.slice Ao62 t269.length co62) : Value).ownBlock) (.slice Ao50 t250.length co50) t250) ∧ Aside0 (Kd.R (Kd.int .i64) 3 wc w.heap.size (fun k_ => some k_ ≠ (v241 : Value).ownBlock ∧ some k_ ≠ (v244 : Value).ownBlock ∧ some k_ ≠ (v274 : Value).ownBlock ∧ some k_ ≠ (v277 : Value).ownBlock ∧ some k_ ≠ ((.slice Ao50 t250.length co50) : Value).ownBlock ∧ some k_ ≠ ((.slice Ao52 t256.length co52) : Value).ownBlock ∧ some k_ ≠ ((.slice Ao60 t263.length co60) : Value).ownBlock ∧ some k_ ≠ ((.slice Ao61 t266.length co61) : Value).ownBlock ∧ some k_ ≠ ((.slice Ao62 t269.length co62) : Value).ownBlock) (.slice Ao51 t253.length co51) t253) ∧ Aside0 (Kd.R (Kd.int .i64) 3 wc w.heap.size (fun k_ => some k_ ≠ (v241 : Value).ownBlock ∧ some k_ ≠ (v244 : Value).ownBlock ∧ some k_ ≠ (v274 : Value).ownBlock ∧ some k_ ≠ (v277 : Value).ownBlock ∧ some k_ ≠ ((.slice Ao50 t250.length co50) : Value).ownBlock ∧ some k_ ≠ ((.slice Ao51 t253.length co51) : Value).ownBlock ∧ some k_ ≠ ((.slice Ao60 t263.length co60) : Value).ownBlock ∧ some k_ ≠ ((.slice Ao61 t266.length co61) : Value).ownBlock ∧ some k_ ≠ ((.slice Ao62 t269.length co62) : Value).ownBlock) (.slice Ao52 t256.length co52) t256) ∧ Aside0 (Kd.R (Kd.int .i64) 3 wc w.heap.size (fun k_ => some k_ ≠ (v241 : Value).ownBlock ∧ some k_ ≠ (v244 : Value).ownBlock ∧ some k_ ≠ (v274 : Value).ownBlock ∧ some k_ ≠ (v277 : Value).ownBlock ∧ some k_ ≠ ((.slice Ao50 t250.length co50) : Value).ownBlock ∧ some k_ ≠ ((.slice Ao51 t253.length co51) : Value).ownBlock ∧ some k_ ≠ ((.slice Ao52 t256.length co52) : Value).ownBlock ∧ some k_ ≠ ((.slice Ao61 t266.length co61) : Value).ownBlock ∧ some k_ ≠ ((.slice Ao62 t269.length co62) : Value).ownBlock) (.slice Ao60 t263.length co60) t263) ∧ Aside0 (Kd.R (Kd.int .i64) 3 wc w.heap.size (fun k_ => some k_ ≠ (v241 : Value).ownBlock ∧ some k_ ≠ (v244 : Value).ownBlock ∧ some k_ ≠ (v274 : Value).ownBlock ∧ some k_ ≠ (v277 : Value).ownBlock ∧ some k_ ≠ ((.slice Ao50 t250.length co50) : Value).ownBlock ∧ some k_ ≠ ((.slice Ao51 t253.length co51) : Value).ownBlock ∧ some k_ ≠ ((.slice Ao52 t256.length co52) : Value).ownBlock ∧ some k_ ≠ ((.slice Ao60 t263.length co60) : Value).ownBlock ∧ some k_ ≠ ((.slice Ao62 t269.length co62) : Value).ownBlock) (.slice Ao61 t266.length co61) t266) ∧ Aside0 (Kd.R (Kd.int .i64) 3 wc w.heap.size (fun k_ => some k_ ≠ (v241 : Value).ownBlock ∧ some k_ ≠ (v244 : Value).ownBlock ∧ some k_ ≠ (v274 : Value).ownBlock ∧ some k_ ≠ (v277 : Value).ownBlock ∧ some k_ ≠ ((.slice Ao50 t250.length co50) : Value).ownBlock ∧ some k_ ≠ ((.slice Ao51 t253.length co51) : Value).ownBlock ∧ some k_ ≠ ((.slice Ao52 t256.length co52) : Value).ownBlock ∧ some k_ ≠ ((.slice Ao60 t263.length co60) : Value).ownBlock ∧ some k_ ≠ ((.slice Ao61 t266.length co61) : Value).ownBlock) (.slice Ao62 t269.length co62) t269) ∧ Aside0 (wc.heap[gb212]? = some (.cells #[.int .i64 a0_0, .int .i64 a0_1, .int .i64 a0_2, (.slice A0_3 l0_3.length c0_3), (.slice A0_4 l0_4.length c0_4), (.slice A0_5 l0_5.length c0_5)] 38 (0, 0))) ∧ Aside0 (wc.heap[gb213]? = some (.cells #[.int .i64 a1_0, .int .i64 a1_1, .int .i64 a1_2, (.slice A1_3 l1_3.length c1_3), (.slice A1_4 l1_4.length c1_4), (.slice A1_5 l1_5.length c1_5)] 38 (0, 0))) ∧ Aside0 (wc.heap[gb259]? = some (.cells #[.int .i64 t247, .int .i64 t248, .int .i64 t249, (.slice Ao50 t250.length co50), (.slice Ao51 t253.length co51), (.slice Ao52 t256.length co52)] 44 (0, 0))) ∧ Aside0 (wc.heap[gb272]? = some (.cells #[.int .i64 t260, .int .i64 t261, .int .i64 t262, (.slice Ao60 t263.length co60), (.slice Ao61 t266.length co61), (.slice Ao62 t269.length co62)] 44 (0, 0))) ∧ Aside0 (Below w.heap.size w wc))
        case first =>
         have H := HC92.out
         clear HC92
         by_cases c99 : t307 = true
         ·subst c99
          have H1 : (laws_FnExactKindChanges.j2 kj81 a2 t240 t243 t246 t273 t276 t279 a0_0 a0_1 a0_2 l0_3 l0_4 l0_5 a1_0 a1_1 a1_2 l1_3 l1_4 l1_5 t247 t248 t249 t250 t253 t256 t260 t261 t262 t263 t266 t269) = some r := by rw [if_pos rfl] at H; exact H
          clear H
          have H := H1
          clear H1
          have H' := Aside0.mk H
          clear H
          go_wp2
          go_meet
          case rel => exact ⟨_, H', ⟨by have := HJ25.out; have := HJ81.out; first | omega | exact Nat.le_refl _⟩, ⟨by exact rRx7 (mox7 HO_8.out)⟩, ⟨by exact rRx7 (mox7 HO_9.out)⟩, ⟨by exact rRx7 (mox7 HO_13.out)⟩, ⟨by exact rRx7 (mox7 HO_14.out)⟩, ⟨by exact rRx7 (mox7 HO_260003.out)⟩, ⟨by exact rRx7 (mox7 HO_260004.out)⟩, ⟨by exact rRx7 (mox7 HO_260005.out)⟩, ⟨by exact rRx7 (mox7 HO_273003.out)⟩, ⟨by exact rRx7 (mox7 HO_273004.out)⟩, ⟨by exact rRx7 (mox7 HO_273005.out)⟩, ⟨rBx7 BK212.out⟩, ⟨rBx7 BK213.out⟩, ⟨rBx7 BK259.out⟩, ⟨rBx7 BK272.out⟩, ⟨be4x7 HB.out GE212.out GE213.out GE259.out GE272.out⟩⟩
         ·replace c99 := Bool.eq_false_iff.mpr c99
          subst c99
          have H1 : (some false) = some r := by rw [if_neg (show ¬ (false = true) by decide)] at H; exact H
          clear H
          have H := H1
          clear H1
          obtain rfl := Option.some.inj H
          go_wp2
          go_ret
          exact ⟨by first | rfl | (simp [errW_none, errW_some] <;> rfl) | (simp [*, errW_none, errW_some] <;> rfl), be4x7 HB.out GE212.out GE213.out GE259.out GE272.out⟩
        case rest =>
         clear HC92
         try clear c99
         obtain ⟨kq, HA, HJ91, HO_8, HO_9, HO_13, HO_14, HO_260003, HO_260004, HO_260005, HO_273003, HO_273004, HO_273005, BK212, BK213, BK259, BK272, HB⟩ := hcut
         cases kq with
         | zero => exact absurd HA.out (by simp [laws_FnExactKindChanges.j2])
         | succ kj91 =>
          have H := HA.out
          clear HA
          simp only [laws_FnExactKindChanges.j2] at H
          replace H := Option.bind_eq_some_iff.mp H
          obtain ⟨⟨t308, t309, t310, t311⟩, A1000, H⟩ := H
          (try dsimp only at H)
          have A100 := Aside0.mk A1000
          clear A1000
          replace H := Option.bind_eq_some_iff.mp H
          obtain ⟨⟨t312, t313, t314, t315⟩, A1010, H⟩ := H
          (try dsimp only at H)
          have A101 := Aside0.mk A1010
          clear A1010
          have HC102 := Aside0.mk H
          clear H
          have hnb103 := NB259_212.out
          have hnc103 := NB212_259.out
          have hnb104 := NB259_213.out
          have hnc104 := NB213_259.out
          have hnb105 := NB259_272.out
          have hnc105 := NB272_259.out
          obtain ⟨hcz106_0, hcz106_1, hcz106_2, hcz106_3, hcz106_4, hcz106_5, hfz106_0, hfz106_1, hfz106_2, hfz106_3, hfz106_4, hfz106_5⟩ := cf6x7 BK259.out
          go_upto_region 21 with (first | ((with_reducible refine gate_callee (f := 36) rfl ?_); refine goesL_ (some 81) rfl rfl Try.func36 (by kernel_rfl) rfl #[.agg #[.int .i64 t247, .int .i64 t248, .int .i64 t249, .slice Ao50 t250.length co50, .slice Ao51 t253.length co51, .slice Ao52 t256.length co52], .int .i64 1] rfl mpx7 ?_; (with_reducible refine (laws_markModel.calls kj91 t247 t248 t249 (fun k_ => some k_ = (.slice Ao50 t250.length co50 : Value).ownBlock) (.slice Ao50 t250.length co50) t250 (fun k_ => some k_ = (.slice Ao51 t253.length co51 : Value).ownBlock) (.slice Ao51 t253.length co51) t253 (fun k_ => some k_ = (.slice Ao52 t256.length co52 : Value).ownBlock) (.slice Ao52 t256.length co52) t256 1 t308 t309 t310 t311 w _ ?side1 ?side2 ?side3 ?side4 ?side5 ?side6 ?side7 ?side8 ?side9 ?side10 A100.out).mono ?_); (case side1 => exact be4x7 HB.out GE212.out GE213.out GE259.out GE272.out); (case side2 => exact Kd.R_tight rfl HO_260003.out); (case side3 => exact fun k_ e_ => (HO_260003.out.1 k_ e_.symm).2.2.2.2.1); (case side4 => exact fun k_ e_ => (HO_260003.out.1 k_ e_.symm).2.2.2.2.2.1); (case side5 => exact Kd.R_tight rfl HO_260004.out); (case side6 => exact fun k_ e_ => (HO_260004.out.1 k_ e_.symm).2.2.2.2.1); (case side7 => exact fun k_ e_ => (HO_260004.out.1 k_ e_.symm).2.2.2.2.2.1); (case side8 => exact Kd.R_tight rfl HO_260005.out); (case side9 => exact fun k_ e_ => (HO_260005.out.1 k_ e_.symm).2.2.2.2.1); (case side10 => exact fun k_ e_ => (HO_260005.out.1 k_ e_.symm).2.2.2.2.2.1); rintro e w107 ⟨rfl, hy0, hy1, hy2, hb, hkp⟩; refine ⟨_, rfl, ?_⟩; replace HO_8 := Aside0.mk (Kd.R_mono (ok' := fun k_ => some k_ ≠ (v244 : Value).ownBlock ∧ some k_ ≠ (v274 : Value).ownBlock ∧ some k_ ≠ (v277 : Value).ownBlock ∧ some k_ ≠ (.slice Ao50 t250.length co50 : Value).ownBlock ∧ some k_ ≠ (.slice Ao51 t253.length co51 : Value).ownBlock ∧ some k_ ≠ (.slice Ao52 t256.length co52 : Value).ownBlock ∧ some k_ ≠ (.slice Ao60 t263.length co60 : Value).ownBlock ∧ some k_ ≠ (.slice Ao61 t266.length co61 : Value).ownBlock ∧ some k_ ≠ (.slice Ao62 t269.length co62 : Value).ownBlock) (Kd.R_keptB (HO_8.out) hkp (fun k_ hk_ hs_ => Or.elim hs_ (fun e_ => (hk_.2.2.2.1) e_) (fun e_ => Or.elim e_ (fun e_ => (hk_.2.2.2.2.1) e_) (fun e_ => (hk_.2.2.2.2.2.1) e_)))) (fun k_ hk_ => ⟨hk_.1.1, hk_.1.2.1, hk_.1.2.2.1, hk_.1.2.2.2.1, hk_.1.2.2.2.2.1, hk_.1.2.2.2.2.2.1, hk_.1.2.2.2.2.2.2.1, hk_.1.2.2.2.2.2.2.2.1, hk_.1.2.2.2.2.2.2.2.2⟩)); replace HO_9 := Aside0.mk (Kd.R_mono (ok' := fun k_ => some k_ ≠ (v241 : Value).ownBlock ∧ some k_ ≠ (v274 : Value).ownBlock ∧ some k_ ≠ (v277 : Value).ownBlock ∧ some k_ ≠ (.slice Ao50 t250.length co50 : Value).ownBlock ∧ some k_ ≠ (.slice Ao51 t253.length co51 : Value).ownBlock ∧ some k_ ≠ (.slice Ao52 t256.length co52 : Value).ownBlock ∧ some k_ ≠ (.slice Ao60 t263.length co60 : Value).ownBlock ∧ some k_ ≠ (.slice Ao61 t266.length co61 : Value).ownBlock ∧ some k_ ≠ (.slice Ao62 t269.length co62 : Value).ownBlock) (Kd.R_keptB (HO_9.out) hkp (fun k_ hk_ hs_ => Or.elim hs_ (fun e_ => (hk_.2.2.2.1) e_) (fun e_ => Or.elim e_ (fun e_ => (hk_.2.2.2.2.1) e_) (fun e_ => (hk_.2.2.2.2.2.1) e_)))) (fun k_ hk_ => ⟨hk_.1.1, hk_.1.2.1, hk_.1.2.2.1, hk_.1.2.2.2.1, hk_.1.2.2.2.2.1, hk_.1.2.2.2.2.2.1, hk_.1.2.2.2.2.2.2.1, hk_.1.2.2.2.2.2.2.2.1, hk_.1.2.2.2.2.2.2.2.2⟩)); replace HO_13 := Aside0.mk (Kd.R_mono (ok' := fun k_ => some k_ ≠ (v241 : Value).ownBlock ∧ some k_ ≠ (v244 : Value).ownBlock ∧ some k_ ≠ (v277 : Value).ownBlock ∧ some k_ ≠ (.slice Ao50 t250.length co50 : Value).ownBlock ∧ some k_ ≠ (.slice Ao51 t253.length co51 : Value).ownBlock ∧ some k_ ≠ (.slice Ao52 t256.length co52 : Value).ownBlock ∧ some k_ ≠ (.slice Ao60 t263.length co60 : Value).ownBlock ∧ some k_ ≠ (.slice Ao61 t266.length co61 : Value).ownBlock ∧ some k_ ≠ (.slice Ao62 t269.length co62 : Value).ownBlock) (Kd.R_keptB (HO_13.out) hkp (fun k_ hk_ hs_ => Or.elim hs_ (fun e_ => (hk_.2.2.2.1) e_) (fun e_ => Or.elim e_ (fun e_ => (hk_.2.2.2.2.1) e_) (fun e_ => (hk_.2.2.2.2.2.1) e_)))) (fun k_ hk_ => ⟨hk_.1.1, hk_.1.2.1, hk_.1.2.2.1, hk_.1.2.2.2.1, hk_.1.2.2.2.2.1, hk_.1.2.2.2.2.2.1, hk_.1.2.2.2.2.2.2.1, hk_.1.2.2.2.2.2.2.2.1, hk_.1.2.2.2.2.2.2.2.2⟩)); replace HO_14 := Aside0.mk (Kd.R_mono (ok' := fun k_ => some k_ ≠ (v241 : Value).ownBlock ∧ some k_ ≠ (v244 : Value).ownBlock ∧ some k_ ≠ (v274 : Value).ownBlock ∧ some k_ ≠ (.slice Ao50 t250.length co50 : Value).ownBlock ∧ some k_ ≠ (.slice Ao51 t253.length co51 : Value).ownBlock ∧ some k_ ≠ (.slice Ao52 t256.length co52 : Value).ownBlock ∧ some k_ ≠ (.slice Ao60 t263.length co60 : Value).ownBlock ∧ some k_ ≠ (.slice Ao61 t266.length co61 : Value).ownBlock ∧ some k_ ≠ (.slice Ao62 t269.length co62 : Value).ownBlock) (Kd.R_keptB (HO_14.out) hkp (fun k_ hk_ hs_ => Or.elim hs_ (fun e_ => (hk_.2.2.2.1) e_) (fun e_ => Or.elim e_ (fun e_ => (hk_.2.2.2.2.1) e_) (fun e_ => (hk_.2.2.2.2.2.1) e_)))) (fun k_ hk_ => ⟨hk_.1.1, hk_.1.2.1, hk_.1.2.2.1, hk_.1.2.2.2.1, hk_.1.2.2.2.2.1, hk_.1.2.2.2.2.2.1, hk_.1.2.2.2.2.2.2.1, hk_.1.2.2.2.2.2.2.2.1, hk_.1.2.2.2.2.2.2.2.2⟩)); replace HO_273003 := Aside0.mk (Kd.R_mono (ok' := fun k_ => some k_ ≠ (v241 : Value).ownBlock ∧ some k_ ≠ (v244 : Value).ownBlock ∧ some k_ ≠ (v274 : Value).ownBlock ∧ some k_ ≠ (v277 : Value).ownBlock ∧ some k_ ≠ (.slice Ao50 t250.length co50 : Value).ownBlock ∧ some k_ ≠ (.slice Ao51 t253.length co51 : Value).ownBlock ∧ some k_ ≠ (.slice Ao52 t256.length co52 : Value).ownBlock ∧ some k_ ≠ (.slice Ao61 t266.length co61 : Value).ownBlock ∧ some k_ ≠ (.slice Ao62 t269.length co62 : Value).ownBlock) (Kd.R_keptB (HO_273003.out) hkp (fun k_ hk_ hs_ => Or.elim hs_ (fun e_ => (hk_.2.2.2.2.1) e_) (fun e_ => Or.elim e_ (fun e_ => (hk_.2.2.2.2.2.1) e_) (fun e_ => (hk_.2.2.2.2.2.2.1) e_)))) (fun k_ hk_ => ⟨hk_.1.1, hk_.1.2.1, hk_.1.2.2.1, hk_.1.2.2.2.1, hk_.1.2.2.2.2.1, hk_.1.2.2.2.2.2.1, hk_.1.2.2.2.2.2.2.1, hk_.1.2.2.2.2.2.2.2.1, hk_.1.2.2.2.2.2.2.2.2⟩)); replace HO_273004 := Aside0.mk (Kd.R_mono (ok' := fun k_ => some k_ ≠ (v241 : Value).ownBlock ∧ some k_ ≠ (v244 : Value).ownBlock ∧ some k_ ≠ (v274 : Value).ownBlock ∧ some k_ ≠ (v277 : Value).ownBlock ∧ some k_ ≠ (.slice Ao50 t250.length co50 : Value).ownBlock ∧ some k_ ≠ (.slice Ao51 t253.length co51 : Value).ownBlock ∧ some k_ ≠ (.slice Ao52 t256.length co52 : Value).ownBlock ∧ some k_ ≠ (.slice Ao60 t263.length co60 : Value).ownBlock ∧ some k_ ≠ (.slice Ao62 t269.length co62 : Value).ownBlock) (Kd.R_keptB (HO_273004.out) hkp (fun k_ hk_ hs_ => Or.elim hs_ (fun e_ => (hk_.2.2.2.2.1) e_) (fun e_ => Or.elim e_ (fun e_ => (hk_.2.2.2.2.2.1) e_) (fun e_ => (hk_.2.2.2.2.2.2.1) e_)))) (fun k_ hk_ => ⟨hk_.1.1, hk_.1.2.1, hk_.1.2.2.1, hk_.1.2.2.2.1, hk_.1.2.2.2.2.1, hk_.1.2.2.2.2.2.1, hk_.1.2.2.2.2.2.2.1, hk_.1.2.2.2.2.2.2.2.1, hk_.1.2.2.2.2.2.2.2.2⟩)); replace HO_273005 := Aside0.mk (Kd.R_mono (ok' := fun k_ => some k_ ≠ (v241 : Value).ownBlock ∧ some k_ ≠ (v244 : Value).ownBlock ∧ some k_ ≠ (v274 : Value).ownBlock ∧ some k_ ≠ (v277 : Value).ownBlock ∧ some k_ ≠ (.slice Ao50 t250.length co50 : Value).ownBlock ∧ some k_ ≠ (.slice Ao51 t253.length co51 : Value).ownBlock ∧ some k_ ≠ (.slice Ao52 t256.length co52 : Value).ownBlock ∧ some k_ ≠ (.slice Ao60 t263.length co60 : Value).ownBlock ∧ some k_ ≠ (.slice Ao61 t266.length co61 : Value).ownBlock) (Kd.R_keptB (HO_273005.out) hkp (fun k_ hk_ hs_ => Or.elim hs_ (fun e_ => (hk_.2.2.2.2.1) e_) (fun e_ => Or.elim e_ (fun e_ => (hk_.2.2.2.2.2.1) e_) (fun e_ => (hk_.2.2.2.2.2.2.1) e_)))) (fun k_ hk_ => ⟨hk_.1.1, hk_.1.2.1, hk_.1.2.2.1, hk_.1.2.2.2.1, hk_.1.2.2.2.2.1, hk_.1.2.2.2.2.2.1, hk_.1.2.2.2.2.2.2.1, hk_.1.2.2.2.2.2.2.2.1, hk_.1.2.2.2.2.2.2.2.2⟩)); replace BK212 := Aside0.mk (blk_kept (rBx7 BK212.out) hkp (fun hs_ => Or.elim hs_ (fun e_ => (fun e_ => (Kd.R_ne HO_260003.out BK212.out (by decide)) e_) e_) (fun e_ => Or.elim e_ (fun e_ => (fun e_ => (Kd.R_ne HO_260004.out BK212.out (by decide)) e_) e_) (fun e_ => (fun e_ => (Kd.R_ne HO_260005.out BK212.out (by decide)) e_) e_)))); replace BK213 := Aside0.mk (blk_kept (rBx7 BK213.out) hkp (fun hs_ => Or.elim hs_ (fun e_ => (fun e_ => (Kd.R_ne HO_260003.out BK213.out (by decide)) e_) e_) (fun e_ => Or.elim e_ (fun e_ => (fun e_ => (Kd.R_ne HO_260004.out BK213.out (by decide)) e_) e_) (fun e_ => (fun e_ => (Kd.R_ne HO_260005.out BK213.out (by decide)) e_) e_)))); replace BK259 := Aside0.mk (blk_kept (rBx7 BK259.out) hkp (fun hs_ => Or.elim hs_ (fun e_ => (fun e_ => (Kd.R_ne HO_260003.out BK259.out (by decide)) e_) e_) (fun e_ => Or.elim e_ (fun e_ => (fun e_ => (Kd.R_ne HO_260004.out BK259.out (by decide)) e_) e_) (fun e_ => (fun e_ => (Kd.R_ne HO_260005.out BK259.out (by decide)) e_) e_)))); replace BK272 := Aside0.mk (blk_kept (rBx7 BK272.out) hkp (fun hs_ => Or.elim hs_ (fun e_ => (fun e_ => (Kd.R_ne HO_260003.out BK272.out (by decide)) e_) e_) (fun e_ => Or.elim e_ (fun e_ => (fun e_ => (Kd.R_ne HO_260004.out BK272.out (by decide)) e_) e_) (fun e_ => (fun e_ => (Kd.R_ne HO_260005.out BK272.out (by decide)) e_) e_)))); replace HO_260003 := Aside0.mk (Kd.R_reok rfl hy0 (fun k_ e_ => HO_260003.out.1 k_ e_)); replace HO_260004 := Aside0.mk (Kd.R_reok rfl hy1 (fun k_ e_ => HO_260004.out.1 k_ e_)); replace HO_260005 := Aside0.mk (Kd.R_reok rfl hy2 (fun k_ e_ => HO_260005.out.1 k_ e_)); replace HB := Aside0.mk (hb); (try clear hb); (try clear hkp); (try clear hy0); (try clear hy1); (try clear hy2); have hnb108 := NB272_212.out; have hnc108 := NB212_272.out; have hnb109 := NB272_213.out; have hnc109 := NB213_272.out; obtain ⟨hcz110_0, hcz110_1, hcz110_2, hcz110_3, hcz110_4, hcz110_5, hfz110_0, hfz110_1, hfz110_2, hfz110_3, hfz110_4, hfz110_5⟩ := cf6x7 BK272.out) | ((with_reducible refine gate_callee (f := 36) rfl ?_); refine goesL_ (some 84) rfl rfl Try.func36 (by kernel_rfl) rfl #[.agg #[.int .i64 t260, .int .i64 t261, .int .i64 t262, .slice Ao60 t263.length co60, .slice Ao61 t266.length co61, .slice Ao62 t269.length co62], .int .i64 t308] rfl mpx7 ?_; (with_reducible refine (laws_markModel.calls kj91 t260 t261 t262 (fun k_ => some k_ = (.slice Ao60 t263.length co60 : Value).ownBlock) (.slice Ao60 t263.length co60) t263 (fun k_ => some k_ = (.slice Ao61 t266.length co61 : Value).ownBlock) (.slice Ao61 t266.length co61) t266 (fun k_ => some k_ = (.slice Ao62 t269.length co62 : Value).ownBlock) (.slice Ao62 t269.length co62) t269 t308 t312 t313 t314 t315 w _ ?side1 ?side2 ?side3 ?side4 ?side5 ?side6 ?side7 ?side8 ?side9 ?side10 A101.out).mono ?_); (case side1 => exact be4x7 HB.out GE212.out GE213.out GE259.out GE272.out); (case side2 => exact Kd.R_tight rfl HO_273003.out); (case side3 => exact fun k_ e_ => (HO_273003.out.1 k_ e_.symm).2.2.2.2.2.2.2.1); (case side4 => exact fun k_ e_ => (HO_273003.out.1 k_ e_.symm).2.2.2.2.2.2.2.2); (case side5 => exact Kd.R_tight rfl HO_273004.out); (case side6 => exact fun k_ e_ => (HO_273004.out.1 k_ e_.symm).2.2.2.2.2.2.2.1); (case side7 => exact fun k_ e_ => (HO_273004.out.1 k_ e_.symm).2.2.2.2.2.2.2.2); (case side8 => exact Kd.R_tight rfl HO_273005.out); (case side9 => exact fun k_ e_ => (HO_273005.out.1 k_ e_.symm).2.2.2.2.2.2.2.1); (case side10 => exact fun k_ e_ => (HO_273005.out.1 k_ e_.symm).2.2.2.2.2.2.2.2); rintro e w111 ⟨rfl, hy0, hy1, hy2, hb, hkp⟩; refine ⟨_, rfl, ?_⟩; replace HO_8 := Aside0.mk (Kd.R_mono (ok' := fun k_ => some k_ ≠ (v244 : Value).ownBlock ∧ some k_ ≠ (v274 : Value).ownBlock ∧ some k_ ≠ (v277 : Value).ownBlock ∧ some k_ ≠ (.slice Ao50 t250.length co50 : Value).ownBlock ∧ some k_ ≠ (.slice Ao51 t253.length co51 : Value).ownBlock ∧ some k_ ≠ (.slice Ao52 t256.length co52 : Value).ownBlock ∧ some k_ ≠ (.slice Ao60 t263.length co60 : Value).ownBlock ∧ some k_ ≠ (.slice Ao61 t266.length co61 : Value).ownBlock ∧ some k_ ≠ (.slice Ao62 t269.length co62 : Value).ownBlock) (Kd.R_keptB (HO_8.out) hkp (fun k_ hk_ hs_ => Or.elim hs_ (fun e_ => (hk_.2.2.2.2.2.2.1) e_) (fun e_ => Or.elim e_ (fun e_ => (hk_.2.2.2.2.2.2.2.1) e_) (fun e_ => (hk_.2.2.2.2.2.2.2.2) e_)))) (fun k_ hk_ => ⟨hk_.1.1, hk_.1.2.1, hk_.1.2.2.1, hk_.1.2.2.2.1, hk_.1.2.2.2.2.1, hk_.1.2.2.2.2.2.1, hk_.1.2.2.2.2.2.2.1, hk_.1.2.2.2.2.2.2.2.1, hk_.1.2.2.2.2.2.2.2.2⟩)); replace HO_9 := Aside0.mk (Kd.R_mono (ok' := fun k_ => some k_ ≠ (v241 : Value).ownBlock ∧ some k_ ≠ (v274 : Value).ownBlock ∧ some k_ ≠ (v277 : Value).ownBlock ∧ some k_ ≠ (.slice Ao50 t250.length co50 : Value).ownBlock ∧ some k_ ≠ (.slice Ao51 t253.length co51 : Value).ownBlock ∧ some k_ ≠ (.slice Ao52 t256.length co52 : Value).ownBlock ∧ some k_ ≠ (.slice Ao60 t263.length co60 : Value).ownBlock ∧ some k_ ≠ (.slice Ao61 t266.length co61 : Value).ownBlock ∧ some k_ ≠ (.slice Ao62 t269.length co62 : Value).ownBlock) (Kd.R_keptB (HO_9.out) hkp (fun k_ hk_ hs_ => Or.elim hs_ (fun e_ => (hk_.2.2.2.2.2.2.1) e_) (fun e_ => Or.elim e_ (fun e_ => (hk_.2.2.2.2.2.2.2.1) e_) (fun e_ => (hk_.2.2.2.2.2.2.2.2) e_)))) (fun k_ hk_ => ⟨hk_.1.1, hk_.1.2.1, hk_.1.2.2.1, hk_.1.2.2.2.1, hk_.1.2.2.2.2.1, hk_.1.2.2.2.2.2.1, hk_.1.2.2.2.2.2.2.1, hk_.1.2.2.2.2.2.2.2.1, hk_.1.2.2.2.2.2.2.2.2⟩)); replace HO_13 := Aside0.mk (Kd.R_mono (ok' := fun k_ => some k_ ≠ (v241 : Value).ownBlock ∧ some k_ ≠ (v244 : Value).ownBlock ∧ some k_ ≠ (v277 : Value).ownBlock ∧ some k_ ≠ (.slice Ao50 t250.length co50 : Value).ownBlock ∧ some k_ ≠ (.slice Ao51 t253.length co51 : Value).ownBlock ∧ some k_ ≠ (.slice Ao52 t256.length co52 : Value).ownBlock ∧ some k_ ≠ (.slice Ao60 t263.length co60 : Value).ownBlock ∧ some k_ ≠ (.slice Ao61 t266.length co61 : Value).ownBlock ∧ some k_ ≠ (.slice Ao62 t269.length co62 : Value).ownBlock) (Kd.R_keptB (HO_13.out) hkp (fun k_ hk_ hs_ => Or.elim hs_ (fun e_ => (hk_.2.2.2.2.2.2.1) e_) (fun e_ => Or.elim e_ (fun e_ => (hk_.2.2.2.2.2.2.2.1) e_) (fun e_ => (hk_.2.2.2.2.2.2.2.2) e_)))) (fun k_ hk_ => ⟨hk_.1.1, hk_.1.2.1, hk_.1.2.2.1, hk_.1.2.2.2.1, hk_.1.2.2.2.2.1, hk_.1.2.2.2.2.2.1, hk_.1.2.2.2.2.2.2.1, hk_.1.2.2.2.2.2.2.2.1, hk_.1.2.2.2.2.2.2.2.2⟩)); replace HO_14 := Aside0.mk (Kd.R_mono (ok' := fun k_ => some k_ ≠ (v241 : Value).ownBlock ∧ some k_ ≠ (v244 : Value).ownBlock ∧ some k_ ≠ (v274 : Value).ownBlock ∧ some k_ ≠ (.slice Ao50 t250.length co50 : Value).ownBlock ∧ some k_ ≠ (.slice Ao51 t253.length co51 : Value).ownBlock ∧ some k_ ≠ (.slice Ao52 t256.length co52 : Value).ownBlock ∧ some k_ ≠ (.slice Ao60 t263.length co60 : Value).ownBlock ∧ some k_ ≠ (.slice Ao61 t266.length co61 : Value).ownBlock ∧ some k_ ≠ (.slice Ao62 t269.length co62 : Value).ownBlock) (Kd.R_keptB (HO_14.out) hkp (fun k_ hk_ hs_ => Or.elim hs_ (fun e_ => (hk_.2.2.2.2.2.2.1) e_) (fun e_ => Or.elim e_ (fun e_ => (hk_.2.2.2.2.2.2.2.1) e_) (fun e_ => (hk_.2.2.2.2.2.2.2.2) e_)))) (fun k_ hk_ => ⟨hk_.1.1, hk_.1.2.1, hk_.1.2.2.1, hk_.1.2.2.2.1, hk_.1.2.2.2.2.1, hk_.1.2.2.2.2.2.1, hk_.1.2.2.2.2.2.2.1, hk_.1.2.2.2.2.2.2.2.1, hk_.1.2.2.2.2.2.2.2.2⟩)); replace HO_260003 := Aside0.mk (Kd.R_mono (ok' := fun k_ => some k_ ≠ (v241 : Value).ownBlock ∧ some k_ ≠ (v244 : Value).ownBlock ∧ some k_ ≠ (v274 : Value).ownBlock ∧ some k_ ≠ (v277 : Value).ownBlock ∧ some k_ ≠ (.slice Ao51 t253.length co51 : Value).ownBlock ∧ some k_ ≠ (.slice Ao52 t256.length co52 : Value).ownBlock ∧ some k_ ≠ (.slice Ao60 t263.length co60 : Value).ownBlock ∧ some k_ ≠ (.slice Ao61 t266.length co61 : Value).ownBlock ∧ some k_ ≠ (.slice Ao62 t269.length co62 : Value).ownBlock) (Kd.R_keptB (HO_260003.out) hkp (fun k_ hk_ hs_ => Or.elim hs_ (fun e_ => (hk_.2.2.2.2.2.2.1) e_) (fun e_ => Or.elim e_ (fun e_ => (hk_.2.2.2.2.2.2.2.1) e_) (fun e_ => (hk_.2.2.2.2.2.2.2.2) e_)))) (fun k_ hk_ => ⟨hk_.1.1, hk_.1.2.1, hk_.1.2.2.1, hk_.1.2.2.2.1, hk_.1.2.2.2.2.1, hk_.1.2.2.2.2.2.1, hk_.1.2.2.2.2.2.2.1, hk_.1.2.2.2.2.2.2.2.1, hk_.1.2.2.2.2.2.2.2.2⟩)); replace HO_260004 := Aside0.mk (Kd.R_mono (ok' := fun k_ => some k_ ≠ (v241 : Value).ownBlock ∧ some k_ ≠ (v244 : Value).ownBlock ∧ some k_ ≠ (v274 : Value).ownBlock ∧ some k_ ≠ (v277 : Value).ownBlock ∧ some k_ ≠ (.slice Ao50 t250.length co50 : Value).ownBlock ∧ some k_ ≠ (.slice Ao52 t256.length co52 : Value).ownBlock ∧ some k_ ≠ (.slice Ao60 t263.length co60 : Value).ownBlock ∧ some k_ ≠ (.slice Ao61 t266.length co61 : Value).ownBlock ∧ some k_ ≠ (.slice Ao62 t269.length co62 : Value).ownBlock) (Kd.R_keptB (HO_260004.out) hkp (fun k_ hk_ hs_ => Or.elim hs_ (fun e_ => (hk_.2.2.2.2.2.2.1) e_) (fun e_ => Or.elim e_ (fun e_ => (hk_.2.2.2.2.2.2.2.1) e_) (fun e_ => (hk_.2.2.2.2.2.2.2.2) e_)))) (fun k_ hk_ => ⟨hk_.1.1, hk_.1.2.1, hk_.1.2.2.1, hk_.1.2.2.2.1, hk_.1.2.2.2.2.1, hk_.1.2.2.2.2.2.1, hk_.1.2.2.2.2.2.2.1, hk_.1.2.2.2.2.2.2.2.1, hk_.1.2.2.2.2.2.2.2.2⟩)); replace HO_260005 := Aside0.mk (Kd.R_mono (ok' := fun k_ => some k_ ≠ (v241 : Value).ownBlock ∧ some k_ ≠ (v244 : Value).ownBlock ∧ some k_ ≠ (v274 : Value).ownBlock ∧ some k_ ≠ (v277 : Value).ownBlock ∧ some k_ ≠ (.slice Ao50 t250.length co50 : Value).ownBlock ∧ some k_ ≠ (.slice Ao51 t253.length co51 : Value).ownBlock ∧ some k_ ≠ (.slice Ao60 t263.length co60 : Value).ownBlock ∧ some k_ ≠ (.slice Ao61 t266.length co61 : Value).ownBlock ∧ some k_ ≠ (.slice Ao62 t269.length co62 : Value).ownBlock) (Kd.R_keptB (HO_260005.out) hkp (fun k_ hk_ hs_ => Or.elim hs_ (fun e_ => (hk_.2.2.2.2.2.2.1) e_) (fun e_ => Or.elim e_ (fun e_ => (hk_.2.2.2.2.2.2.2.1) e_) (fun e_ => (hk_.2.2.2.2.2.2.2.2) e_)))) (fun k_ hk_ => ⟨hk_.1.1, hk_.1.2.1, hk_.1.2.2.1, hk_.1.2.2.2.1, hk_.1.2.2.2.2.1, hk_.1.2.2.2.2.2.1, hk_.1.2.2.2.2.2.2.1, hk_.1.2.2.2.2.2.2.2.1, hk_.1.2.2.2.2.2.2.2.2⟩)); replace BK212 := Aside0.mk (blk_kept (rBx7 BK212.out) hkp (fun hs_ => Or.elim hs_ (fun e_ => (fun e_ => (Kd.R_ne HO_273003.out BK212.out (by decide)) e_) e_) (fun e_ => Or.elim e_ (fun e_ => (fun e_ => (Kd.R_ne HO_273004.out BK212.out (by decide)) e_) e_) (fun e_ => (fun e_ => (Kd.R_ne HO_273005.out BK212.out (by decide)) e_) e_)))); replace BK213 := Aside0.mk (blk_kept (rBx7 BK213.out) hkp (fun hs_ => Or.elim hs_ (fun e_ => (fun e_ => (Kd.R_ne HO_273003.out BK213.out (by decide)) e_) e_) (fun e_ => Or.elim e_ (fun e_ => (fun e_ => (Kd.R_ne HO_273004.out BK213.out (by decide)) e_) e_) (fun e_ => (fun e_ => (Kd.R_ne HO_273005.out BK213.out (by decide)) e_) e_)))); replace BK259 := Aside0.mk (blk_kept (rBx7 BK259.out) hkp (fun hs_ => Or.elim hs_ (fun e_ => (fun e_ => (Kd.R_ne HO_273003.out BK259.out (by decide)) e_) e_) (fun e_ => Or.elim e_ (fun e_ => (fun e_ => (Kd.R_ne HO_273004.out BK259.out (by decide)) e_) e_) (fun e_ => (fun e_ => (Kd.R_ne HO_273005.out BK259.out (by decide)) e_) e_)))); replace BK272 := Aside0.mk (blk_kept (rBx7 BK272.out) hkp (fun hs_ => Or.elim hs_ (fun e_ => (fun e_ => (Kd.R_ne HO_273003.out BK272.out (by decide)) e_) e_) (fun e_ => Or.elim e_ (fun e_ => (fun e_ => (Kd.R_ne HO_273004.out BK272.out (by decide)) e_) e_) (fun e_ => (fun e_ => (Kd.R_ne HO_273005.out BK272.out (by decide)) e_) e_)))); replace HO_273003 := Aside0.mk (Kd.R_reok rfl hy0 (fun k_ e_ => HO_273003.out.1 k_ e_)); replace HO_273004 := Aside0.mk (Kd.R_reok rfl hy1 (fun k_ e_ => HO_273004.out.1 k_ e_)); replace HO_273005 := Aside0.mk (Kd.R_reok rfl hy2 (fun k_ e_ => HO_273005.out.1 k_ e_)); replace HB := Aside0.mk (hb); (try clear hb); (try clear hkp); (try clear hy0); (try clear hy1); (try clear hy2)))
          (try simp only [Act.put, List.setIfInBounds_toArray, List.set_cons_zero, List.set_cons_succ])
          go_cut [103] (fun v103 wc => ∃ (kq : Nat) (x103_101 : Bool), v103 = .bool x103_101 ∧ Aside0 (laws_FnExactKindChanges.j3 kq a2 t240 t243 t246 t273 t276 x103_101 a0_0 a0_1 a0_2 l0_3 l0_4 l0_5 a1_0 a1_1 a1_2 l1_3 l1_4 l1_5 = some r) ∧ Aside0 (kq ≤ kj91) ∧ Aside0 (Kd.R (Kd.int .i64) 3 wc w.heap.size (fun k_ => some k_ ≠ (v244 : Value).ownBlock ∧ some k_ ≠ (v274 : Value).ownBlock ∧ some k_ ≠ (v277 : Value).ownBlock ∧ some k_ ≠ ((.slice Ao50 t250.length co50) : Value).ownBlock ∧ some k_ ≠ ((.slice Ao51 t253.length co51) : Value).ownBlock ∧ some k_ ≠ ((.slice Ao52 t256.length co52) : Value).ownBlock ∧ some k_ ≠ ((.slice Ao60 t263.length co60) : Value).ownBlock ∧ some k_ ≠ ((.slice Ao61 t266.length co61) : Value).ownBlock ∧ some k_ ≠ ((.slice Ao62 t269.length co62) : Value).ownBlock) v241 t240) ∧ Aside0 (Kd.R (Kd.int .i64) 3 wc w.heap.size (fun k_ => some k_ ≠ (v241 : Value).ownBlock ∧ some k_ ≠ (v274 : Value).ownBlock ∧ some k_ ≠ (v277 : Value).ownBlock ∧ some k_ ≠ ((.slice Ao50 t250.length co50) : Value).ownBlock ∧ some k_ ≠ ((.slice Ao51 t253.length co51) : Value).ownBlock ∧ some k_ ≠ ((.slice Ao52 t256.length co52) : Value).ownBlock ∧ some k_ ≠ ((.slice Ao60 t263.length co60) : Value).ownBlock ∧ some k_ ≠ ((.slice Ao61 t266.length co61) : Value).ownBlock ∧ some k_ ≠ ((.slice Ao62 t269.length co62) : Value).ownBlock) v244 t243) ∧ Aside0 (Kd.R (Kd.int .i64) 3 wc w.heap.size (fun k_ => some k_ ≠ (v241 : Value).ownBlock ∧ some k_ ≠ (v244 : Value).ownBlock ∧ some k_ ≠ (v277 : Value).ownBlock ∧ some k_ ≠ ((.slice Ao50 t250.length co50) : Value).ownBlock ∧ some k_ ≠ ((.slice Ao51 t253.length co51) : Value).ownBlock ∧ some k_ ≠ ((.slice Ao52 t256.length co52) : Value).ownBlock ∧ some k_ ≠ ((.slice Ao60 t263.length co60) : Value).ownBlock ∧ some k_ ≠ ((.slice Ao61 t266.length co61) : Value).ownBlock ∧ some k_ ≠ ((.slice Ao62 t269.length co62) : Value).ownBlock) v274 t273) ∧ Aside0 (Kd.R (Kd.int .i64) 3 wc w.heap.size (fun k_ => some k_ ≠ (v241 : Value).ownBlock ∧ some k_ ≠ (v244 : Value).ownBlock ∧ some k_ ≠ (v274 : Value).ownBlock ∧ some k_ ≠ ((.slice Ao50 t250.length co50) : Value).ownBlock ∧ some k_ ≠ ((.slice Ao51 t253.length co51) : Value).ownBlock ∧ some k_ ≠ ((.slice Ao52 t256.length co52) : Value).ownBlock ∧ some k_ ≠ ((.slice Ao60 t263.length co60) : Value).ownBlock ∧ some k_ ≠ ((.slice Ao61 t266.length co61) : Value).ownBlock ∧ some k_ ≠ ((.slice Ao62 t269.length co62) : Value).ownBlock) v277 t276) ∧ Aside0 (Kd.R (Kd.int .i64) 3 wc w.heap.size (fun k_ => some k_ ≠ (v241 : Value).ownBlock ∧ some k_ ≠ (v244 : Value).ownBlock ∧ some k_ ≠ (v274 : Value).ownBlock ∧ some k_ ≠ (v277 : Value).ownBlock ∧ some k_ ≠ ((.slice Ao51 t253.length co51) : Value).ownBlock ∧ some k_ ≠ ((.slice Ao52 t256.length co52) : Value).ownBlock ∧ some k_ ≠ ((.slice Ao60 t263.length co60) : Value).ownBlock ∧ some k_ ≠ ((.slice Ao61 t266.length co61) : Value).ownBlock ∧ some k_ ≠ ((.slice Ao62 t269.length co62) : Value).ownBlock) (.slice Ao50 t250.length co50) t309) ∧ Aside0 (Kd.R (Kd.int .i64) 3 wc w.heap.size (fun k_ => some k_ ≠ (v241 : Value).ownBlock ∧ some k_ ≠ (v244 : Value).ownBlock ∧ some k_ ≠ (v274 : Value).ownBlock ∧ some k_ ≠ (v277 : Value).ownBlock ∧ some k_ ≠ ((.slice Ao50 t250.length co50) : Value).ownBlock ∧ some k_ ≠ ((.slice Ao52 t256.length co52) : Value).ownBlock ∧ some k_ ≠ ((.slice Ao60 t263.length co60) : Value).ownBlock ∧ some k_ ≠ ((.slice Ao61 t266.length co61) : Value).ownBlock ∧ some k_ ≠ ((.slice Ao62 t269.length co62) : Value).ownBlock) (.slice Ao51 t253.length co51) t310) ∧ Aside0 (Kd.R (Kd.int .i64) 3 wc w.heap.size (fun k_ => some k_ ≠ (v241 : Value).ownBlock ∧ some k_ ≠ (v244 : Value).ownBlock ∧ some k_ ≠ (v274 : Value).ownBlock ∧ some k_ ≠ (v277 : Value).ownBlock ∧ some k_ ≠ ((.slice Ao50 t250.length co50) : Value).ownBlock ∧ some k_ ≠ ((.slice Ao51 t253.length co51) : Value).ownBlock ∧ some k_ ≠ ((.slice Ao60 t263.length co60) : Value).ownBlock ∧ some k_ ≠ ((.slice Ao61 t266.length co61) : Value).ownBlock ∧ some k_ ≠ ((.slice Ao62 t269.length co62) : Value).ownBlock) (.slice Ao52 t256.length co52) t311) ∧ Aside0 (Kd.R (Kd.int .i64) 3 wc w.heap.size (fun k_ => some k_ ≠ (v241 : Value).ownBlock ∧ some k_ ≠ (v244 : Value).ownBlock ∧ some k_ ≠ (v274 : Value).ownBlock ∧ some k_ ≠ (v277 : Value).ownBlock ∧ some k_ ≠ ((.slice Ao50 t250.length co50) : Value).ownBlock ∧ some k_ ≠ ((.slice Ao51 t253.length co51) : Value).ownBlock ∧ some k_ ≠ ((.slice Ao52 t256.length co52) : Value).ownBlock ∧ some k_ ≠ ((.slice Ao61 t266.length co61) : Value).ownBlock ∧ some k_ ≠ ((.slice Ao62 t269.length co62) : Value).ownBlock) (.slice Ao60 t263.length co60) t313) ∧ Aside0 (Kd.R (Kd.int .i64) 3 wc w.heap.size (fun k_ => some k_ ≠ (v241 : Value).ownBlock ∧ some k_ ≠ (v244 : Value).ownBlock ∧ some k_ ≠ (v274 : Value).ownBlock ∧ some k_ ≠ (v277 : Value).ownBlock ∧ some k_ ≠ ((.slice Ao50 t250.length co50) : Value).ownBlock ∧ some k_ ≠ ((.slice Ao51 t253.length co51) : Value).ownBlock ∧ some k_ ≠ ((.slice Ao52 t256.length co52) : Value).ownBlock ∧ some k_ ≠ ((.slice Ao60 t263.length co60) : Value).ownBlock ∧ some k_ ≠ ((.slice Ao62 t269.length co62) : Value).ownBlock) (.slice Ao61 t266.length co61) t314) ∧ Aside0 (Kd.R (Kd.int .i64) 3 wc w.heap.size (fun k_ => some k_ ≠ (v241 : Value).ownBlock ∧ some k_ ≠ (v244 : Value).ownBlock ∧ some k_ ≠ (v274 : Value).ownBlock ∧ some k_ ≠ (v277 : Value).ownBlock ∧ some k_ ≠ ((.slice Ao50 t250.length co50) : Value).ownBlock ∧ some k_ ≠ ((.slice Ao51 t253.length co51) : Value).ownBlock ∧ some k_ ≠ ((.slice Ao52 t256.length co52) : Value).ownBlock ∧ some k_ ≠ ((.slice Ao60 t263.length co60) : Value).ownBlock ∧ some k_ ≠ ((.slice Ao61 t266.length co61) : Value).ownBlock) (.slice Ao62 t269.length co62) t315) ∧ Aside0 (wc.heap[gb212]? = some (.cells #[.int .i64 a0_0, .int .i64 a0_1, .int .i64 a0_2, (.slice A0_3 l0_3.length c0_3), (.slice A0_4 l0_4.length c0_4), (.slice A0_5 l0_5.length c0_5)] 38 (0, 0))) ∧ Aside0 (wc.heap[gb213]? = some (.cells #[.int .i64 a1_0, .int .i64 a1_1, .int .i64 a1_2, (.slice A1_3 l1_3.length c1_3), (.slice A1_4 l1_4.length c1_4), (.slice A1_5 l1_5.length c1_5)] 38 (0, 0))) ∧ Aside0 (wc.heap[gb259]? = some (.cells #[.int .i64 t247, .int .i64 t248, .int .i64 t249, (.slice Ao50 t250.length co50), (.slice Ao51 t253.length co51), (.slice Ao52 t256.length co52)] 44 (0, 0))) ∧ Aside0 (wc.heap[gb272]? = some (.cells #[.int .i64 t260, .int .i64 t261, .int .i64 t262, (.slice Ao60 t263.length co60), (.slice Ao61 t266.length co61), (.slice Ao62 t269.length co62)] 44 (0, 0))) ∧ Aside0 (Below w.heap.size w wc))
          case first =>
           have H := HC102.out
           clear HC102
           by_cases c112 : t312 < 0
           ·rw [if_pos c112] at H
            have c112b0 : decide (t312 < 0) = true := decide_eq_true c112
            clear c112
            (first | rw [c112b0] | (simp only [i64_w, i32_w]; rw [c112b0]) | skip)
            have H' := Aside0.mk H
            clear H
            go_wp2
            go_meet
            case rel => exact ⟨_, (true), (by first | rfl | (simp; done) | (simp [*]; done)), H', ⟨by have := HJ25.out; have := HJ81.out; have := HJ91.out; first | omega | exact Nat.le_refl _⟩, ⟨rRx7 HO_8.out⟩, ⟨rRx7 HO_9.out⟩, ⟨rRx7 HO_13.out⟩, ⟨rRx7 HO_14.out⟩, ⟨rRx7 HO_260003.out⟩, ⟨rRx7 HO_260004.out⟩, ⟨rRx7 HO_260005.out⟩, ⟨rRx7 HO_273003.out⟩, ⟨rRx7 HO_273004.out⟩, ⟨rRx7 HO_273005.out⟩, ⟨rBx7 BK212.out⟩, ⟨rBx7 BK213.out⟩, ⟨rBx7 BK259.out⟩, ⟨rBx7 BK272.out⟩, ⟨be4x7 HB.out GE212.out GE213.out GE259.out GE272.out⟩⟩
           ·rw [if_neg c112] at H
            have c112b0 : decide (t312 < 0) = false := decide_eq_false c112
            clear c112
            (first | rw [c112b0] | (simp only [i64_w, i32_w]; rw [c112b0]) | skip)
            replace H := Option.bind_eq_some_iff.mp H
            obtain ⟨t316, A1130, H⟩ := H
            have A113 := Aside0.mk A1130
            clear A1130
            by_cases c114 : t316 = true
            ·subst c114
             have H1 : ((laws_eqIntS.f kj91 t276 t243).bind fun t317 => (if t317 = true then (laws_FnExactKindChanges.j3 kj91 a2 t240 t243 t246 t273 t276 (t279 != t246) a0_0 a0_1 a0_2 l0_3 l0_4 l0_5 a1_0 a1_1 a1_2 l1_3 l1_4 l1_5) else (laws_FnExactKindChanges.j3 kj91 a2 t240 t243 t246 t273 t276 true a0_0 a0_1 a0_2 l0_3 l0_4 l0_5 a1_0 a1_1 a1_2 l1_3 l1_4 l1_5))) = some r := by rw [if_pos rfl] at H; exact H
             clear H
             have H := H1
             clear H1
             replace H := Option.bind_eq_some_iff.mp H
             obtain ⟨t317, A1150, H⟩ := H
             have A115 := Aside0.mk A1150
             clear A1150
             by_cases c116 : t317 = true
             ·subst c116
              have H1 : (laws_FnExactKindChanges.j3 kj91 a2 t240 t243 t246 t273 t276 (t279 != t246) a0_0 a0_1 a0_2 l0_3 l0_4 l0_5 a1_0 a1_1 a1_2 l1_3 l1_4 l1_5) = some r := by rw [if_pos rfl] at H; exact H
              clear H
              have H := H1
              clear H1
              have H' := Aside0.mk H
              clear H
              obtain ⟨Ao117, co117, eo117⟩ := Kd.R_slice HO_13.out
              subst eo117
              obtain ⟨Ao118, co118, eo118⟩ := Kd.R_slice HO_8.out
              subst eo118
              go_wp2_with (first | (go_at_call 35; (with_reducible refine (laws_eqIntS.calls kj91 _ _ t273 _ _ t240 true _ ?side1 ?side2 ?side3 ?side4 A113.out).mono ?_); (case side1 => exact cRx7 HO_13.out); (case side2 => exact (Kd.R_reads' HO_13.out).2.1); (case side3 => exact cRx7 HO_8.out); (case side4 => exact (Kd.R_reads' HO_8.out).2.1); rintro e w' ⟨rfl, ⟨nd, rfl⟩⟩; obtain ⟨Ao119, co119, eo119⟩ := Kd.R_slice HO_14.out; subst eo119; obtain ⟨Ao120, co120, eo120⟩ := Kd.R_slice HO_9.out; subst eo120) | (go_at_call 35; (with_reducible refine (laws_eqIntS.calls kj91 _ _ t276 _ _ t243 true _ ?side1 ?side2 ?side3 ?side4 A115.out).mono ?_); (case side1 => exact cRx7 HO_14.out); (case side2 => exact (Kd.R_reads' HO_14.out).2.1); (case side3 => exact cRx7 HO_9.out); (case side4 => exact (Kd.R_reads' HO_9.out).2.1); rintro e w' ⟨rfl, ⟨nd, rfl⟩⟩))
              go_meet
              case rel => exact ⟨_, ((t279 != t246)), (by first | rfl | (simp; done) | (simp [*]; done)), H', ⟨by have := HJ25.out; have := HJ81.out; have := HJ91.out; first | omega | exact Nat.le_refl _⟩, ⟨rRx7 HO_8.out⟩, ⟨rRx7 HO_9.out⟩, ⟨rRx7 HO_13.out⟩, ⟨rRx7 HO_14.out⟩, ⟨rRx7 HO_260003.out⟩, ⟨rRx7 HO_260004.out⟩, ⟨rRx7 HO_260005.out⟩, ⟨rRx7 HO_273003.out⟩, ⟨rRx7 HO_273004.out⟩, ⟨rRx7 HO_273005.out⟩, ⟨rBx7 BK212.out⟩, ⟨rBx7 BK213.out⟩, ⟨rBx7 BK259.out⟩, ⟨rBx7 BK272.out⟩, ⟨be4x7 HB.out GE212.out GE213.out GE259.out GE272.out⟩⟩
             ·replace c116 := Bool.eq_false_iff.mpr c116
              subst c116
              have H1 : (laws_FnExactKindChanges.j3 kj91 a2 t240 t243 t246 t273 t276 true a0_0 a0_1 a0_2 l0_3 l0_4 l0_5 a1_0 a1_1 a1_2 l1_3 l1_4 l1_5) = some r := by rw [if_neg (show ¬ (false = true) by decide)] at H; exact H
              clear H
              have H := H1
              clear H1
              have H' := Aside0.mk H
              clear H
              obtain ⟨Ao121, co121, eo121⟩ := Kd.R_slice HO_13.out
              subst eo121
              obtain ⟨Ao122, co122, eo122⟩ := Kd.R_slice HO_8.out
              subst eo122
              go_wp2_with (first | (go_at_call 35; (with_reducible refine (laws_eqIntS.calls kj91 _ _ t273 _ _ t240 true _ ?side1 ?side2 ?side3 ?side4 A113.out).mono ?_); (case side1 => exact cRx7 HO_13.out); (case side2 => exact (Kd.R_reads' HO_13.out).2.1); (case side3 => exact cRx7 HO_8.out); (case side4 => exact (Kd.R_reads' HO_8.out).2.1); rintro e w' ⟨rfl, ⟨nd, rfl⟩⟩; obtain ⟨Ao123, co123, eo123⟩ := Kd.R_slice HO_14.out; subst eo123; obtain ⟨Ao124, co124, eo124⟩ := Kd.R_slice HO_9.out; subst eo124) | (go_at_call 35; (with_reducible refine (laws_eqIntS.calls kj91 _ _ t276 _ _ t243 false _ ?side1 ?side2 ?side3 ?side4 A115.out).mono ?_); (case side1 => exact cRx7 HO_14.out); (case side2 => exact (Kd.R_reads' HO_14.out).2.1); (case side3 => exact cRx7 HO_9.out); (case side4 => exact (Kd.R_reads' HO_9.out).2.1); rintro e w' ⟨rfl, ⟨nd, rfl⟩⟩))
              go_meet
              case rel => exact ⟨_, (true), (by first | rfl | (simp; done) | (simp [*]; done)), H', ⟨by have := HJ25.out; have := HJ81.out; have := HJ91.out; first | omega | exact Nat.le_refl _⟩, ⟨rRx7 HO_8.out⟩, ⟨rRx7 HO_9.out⟩, ⟨rRx7 HO_13.out⟩, ⟨rRx7 HO_14.out⟩, ⟨rRx7 HO_260003.out⟩, ⟨rRx7 HO_260004.out⟩, ⟨rRx7 HO_260005.out⟩, ⟨rRx7 HO_273003.out⟩, ⟨rRx7 HO_273004.out⟩, ⟨rRx7 HO_273005.out⟩, ⟨rBx7 BK212.out⟩, ⟨rBx7 BK213.out⟩, ⟨rBx7 BK259.out⟩, ⟨rBx7 BK272.out⟩, ⟨be4x7 HB.out GE212.out GE213.out GE259.out GE272.out⟩⟩
            ·replace c114 := Bool.eq_false_iff.mpr c114
             subst c114
             have H1 : (laws_FnExactKindChanges.j3 kj91 a2 t240 t243 t246 t273 t276 true a0_0 a0_1 a0_2 l0_3 l0_4 l0_5 a1_0 a1_1 a1_2 l1_3 l1_4 l1_5) = some r := by rw [if_neg (show ¬ (false = true) by decide)] at H; exact H
             clear H
             have H := H1
             clear H1
             have H' := Aside0.mk H
             clear H
             obtain ⟨Ao125, co125, eo125⟩ := Kd.R_slice HO_13.out
             subst eo125
             obtain ⟨Ao126, co126, eo126⟩ := Kd.R_slice HO_8.out
             subst eo126
             go_wp2_with (first | (go_at_call 35; (with_reducible refine (laws_eqIntS.calls kj91 _ _ t273 _ _ t240 false _ ?side1 ?side2 ?side3 ?side4 A113.out).mono ?_); (case side1 => exact cRx7 HO_13.out); (case side2 => exact (Kd.R_reads' HO_13.out).2.1); (case side3 => exact cRx7 HO_8.out); (case side4 => exact (Kd.R_reads' HO_8.out).2.1); rintro e w' ⟨rfl, ⟨nd, rfl⟩⟩))
             go_meet
             case rel => exact ⟨_, (true), (by first | rfl | (simp; done) | (simp [*]; done)), H', ⟨by have := HJ25.out; have := HJ81.out; have := HJ91.out; first | omega | exact Nat.le_refl _⟩, ⟨rRx7 HO_8.out⟩, ⟨rRx7 HO_9.out⟩, ⟨rRx7 HO_13.out⟩, ⟨rRx7 HO_14.out⟩, ⟨rRx7 HO_260003.out⟩, ⟨rRx7 HO_260004.out⟩, ⟨rRx7 HO_260005.out⟩, ⟨rRx7 HO_273003.out⟩, ⟨rRx7 HO_273004.out⟩, ⟨rRx7 HO_273005.out⟩, ⟨rBx7 BK212.out⟩, ⟨rBx7 BK213.out⟩, ⟨rBx7 BK259.out⟩, ⟨rBx7 BK272.out⟩, ⟨be4x7 HB.out GE212.out GE213.out GE259.out GE272.out⟩⟩
          case rest =>
           clear HC102
           try clear c112; try clear c112b0; try clear c114; try clear c116; try clear hcz106_0 hcz106_1 hcz106_2 hcz106_3 hcz106_4 hcz106_5; try clear hcz110_0 hcz110_1 hcz110_2 hcz110_3 hcz110_4 hcz110_5; try clear hfz106_0 hfz106_1 hfz106_2 hfz106_3 hfz106_4 hfz106_5; try clear hfz110_0 hfz110_1 hfz110_2 hfz110_3 hfz110_4 hfz110_5
           obtain ⟨kq, x103_101, rfl, HA, HJ101, HO_8, HO_9, HO_13, HO_14, HO_260003, HO_260004, HO_260005, HO_273003, HO_273004, HO_273005, BK212, BK213, BK259, BK272, HB⟩ := hcut
           have hl260003_101 := (Kd.R_reads' HO_260003.out).1
           rw [hl260003_101] at HO_260003
           (try simp only [hl260003_101])
           (try simp only [hl260003_101] at BK212)
           (try simp only [hl260003_101] at BK213)
           (try simp only [hl260003_101] at BK259)
           (try simp only [hl260003_101] at BK272)
           (try simp only [hl260003_101] at HO_8)
           (try simp only [hl260003_101] at HO_9)
           (try simp only [hl260003_101] at HO_13)
           (try simp only [hl260003_101] at HO_14)
           (try simp only [hl260003_101] at HO_260004)
           (try simp only [hl260003_101] at HO_260005)
           (try simp only [hl260003_101] at HO_273003)
           (try simp only [hl260003_101] at HO_273004)
           (try simp only [hl260003_101] at HO_273005)
           have hl260004_101 := (Kd.R_reads' HO_260004.out).1
           rw [hl260004_101] at HO_260004
           (try simp only [hl260004_101])
           (try simp only [hl260004_101] at BK212)
           (try simp only [hl260004_101] at BK213)
           (try simp only [hl260004_101] at BK259)
           (try simp only [hl260004_101] at BK272)
           (try simp only [hl260004_101] at HO_8)
           (try simp only [hl260004_101] at HO_9)
           (try simp only [hl260004_101] at HO_13)
           (try simp only [hl260004_101] at HO_14)
           (try simp only [hl260004_101] at HO_260003)
           (try simp only [hl260004_101] at HO_260005)
           (try simp only [hl260004_101] at HO_273003)
           (try simp only [hl260004_101] at HO_273004)
           (try simp only [hl260004_101] at HO_273005)
           have hl260005_101 := (Kd.R_reads' HO_260005.out).1
           rw [hl260005_101] at HO_260005
           (try simp only [hl260005_101])
           (try simp only [hl260005_101] at BK212)
           (try simp only [hl260005_101] at BK213)
           (try simp only [hl260005_101] at BK259)
           (try simp only [hl260005_101] at BK272)
           (try simp only [hl260005_101] at HO_8)
           (try simp only [hl260005_101] at HO_9)
           (try simp only [hl260005_101] at HO_13)
           (try simp only [hl260005_101] at HO_14)
           (try simp only [hl260005_101] at HO_260003)
           (try simp only [hl260005_101] at HO_260004)
           (try simp only [hl260005_101] at HO_273003)
           (try simp only [hl260005_101] at HO_273004)
           (try simp only [hl260005_101] at HO_273005)
           have hl273003_101 := (Kd.R_reads' HO_273003.out).1
           rw [hl273003_101] at HO_273003
           (try simp only [hl273003_101])
           (try simp only [hl273003_101] at BK212)
           (try simp only [hl273003_101] at BK213)
           (try simp only [hl273003_101] at BK259)
           (try simp only [hl273003_101] at BK272)
           (try simp only [hl273003_101] at HO_8)
           (try simp only [hl273003_101] at HO_9)
           (try simp only [hl273003_101] at HO_13)
           (try simp only [hl273003_101] at HO_14)
           (try simp only [hl273003_101] at HO_260003)
           (try simp only [hl273003_101] at HO_260004)
           (try simp only [hl273003_101] at HO_260005)
           (try simp only [hl273003_101] at HO_273004)
           (try simp only [hl273003_101] at HO_273005)
           have hl273004_101 := (Kd.R_reads' HO_273004.out).1
           rw [hl273004_101] at HO_273004
           (try simp only [hl273004_101])
           (try simp only [hl273004_101] at BK212)
           (try simp only [hl273004_101] at BK213)
           (try simp only [hl273004_101] at BK259)
           (try simp only [hl273004_101] at BK272)
           (try simp only [hl273004_101] at HO_8)
           (try simp only [hl273004_101] at HO_9)
           (try simp only [hl273004_101] at HO_13)
           (try simp only [hl273004_101] at HO_14)
           (try simp only [hl273004_101] at HO_260003)
           (try simp only [hl273004_101] at HO_260004)
           (try simp only [hl273004_101] at HO_260005)
           (try simp only [hl273004_101] at HO_273003)
           (try simp only [hl273004_101] at HO_273005)
           have hl273005_101 := (Kd.R_reads' HO_273005.out).1
           rw [hl273005_101] at HO_273005
           (try simp only [hl273005_101])
           (try simp only [hl273005_101] at BK212)
           (try simp only [hl273005_101] at BK213)
           (try simp only [hl273005_101] at BK259)
           (try simp only [hl273005_101] at BK272)
           (try simp only [hl273005_101] at HO_8)
           (try simp only [hl273005_101] at HO_9)
           (try simp only [hl273005_101] at HO_13)
           (try simp only [hl273005_101] at HO_14)
           (try simp only [hl273005_101] at HO_260003)
           (try simp only [hl273005_101] at HO_260004)
           (try simp only [hl273005_101] at HO_260005)
           (try simp only [hl273005_101] at HO_273003)
           (try simp only [hl273005_101] at HO_273004)
           cases kq with
           | zero => exact absurd HA.out (by simp [laws_FnExactKindChanges.j3])
           | succ kj101 =>
            have H := HA.out
            clear HA
            simp only [laws_FnExactKindChanges.j3] at H
            by_cases c127 : x103_101 = true
            ·subst c127
             have H1 : (some false) = some r := by rw [if_pos rfl] at H; exact H
             clear H
             have H := H1
             clear H1
             obtain rfl := Option.some.inj H
             go_wp2
             go_ret
             exact ⟨by first | rfl | (simp [errW_none, errW_some] <;> rfl) | (simp [*, errW_none, errW_some] <;> rfl), be4x7 HB.out GE212.out GE213.out GE259.out GE272.out⟩
            ·replace c127 := Bool.eq_false_iff.mpr c127
             subst c127
             have H1 : ((laws_markIntS.f kj101 t273 1).bind fun bt318 => ((laws_markIntS.f kj101 t276 bt318.1).bind fun bt320 => ((laws_heldIntS.f kj101 bt318.2 1).bind fun t322 => (if t322 < 0 then (some false) else (laws_FnExactKindChanges.j4 kj101 a2 t240 t243 t246 bt318.2 bt320.2 bt320.1 t322 a0_0 a0_1 a0_2 l0_3 l0_4 l0_5 a1_0 a1_1 a1_2 l1_3 l1_4 l1_5))))) = some r := by rw [if_neg (show ¬ (false = true) by decide)] at H; exact H
             clear H
             have H := H1
             clear H1
             replace H := Option.bind_eq_some_iff.mp H
             obtain ⟨⟨t318, t319⟩, A1280, H⟩ := H
             (try dsimp only at H)
             have A128 := Aside0.mk A1280
             clear A1280
             replace H := Option.bind_eq_some_iff.mp H
             obtain ⟨⟨t320, t321⟩, A1290, H⟩ := H
             (try dsimp only at H)
             have A129 := Aside0.mk A1290
             clear A1290
             replace H := Option.bind_eq_some_iff.mp H
             obtain ⟨t322, A1300, H⟩ := H
             have A130 := Aside0.mk A1300
             clear A1300
             have HC131 := Aside0.mk H
             clear H
             obtain ⟨Ao132, co132, eo132⟩ := Kd.R_slice HO_13.out
             subst eo132
             go_upto_if 114 with (first | ((with_reducible refine gate_callee (f := 37) rfl ?_); refine goesL_ (some 106) rfl rfl Try.func37 (by kernel_rfl) rfl #[.slice Ao132 t273.length co132, .int .i64 1] rfl mpx7 ?_; (with_reducible refine (laws_markIntS.calls kj101 (fun k_ => some k_ = (.slice Ao132 t273.length co132 : Value).ownBlock) (.slice Ao132 t273.length co132) t273 1 t318 t319 w _ ?side1 ?side2 A128.out).mono ?_); (case side1 => exact be4x7 HB.out GE212.out GE213.out GE259.out GE272.out); (case side2 => exact Kd.R_tight rfl HO_13.out); rintro e w133 ⟨rfl, hy0, hb, hkp⟩; refine ⟨_, rfl, ?_⟩; replace HO_8 := Aside0.mk (Kd.R_mono (ok' := fun k_ => some k_ ≠ (v244 : Value).ownBlock ∧ some k_ ≠ (.slice Ao132 t273.length co132 : Value).ownBlock ∧ some k_ ≠ (v277 : Value).ownBlock ∧ some k_ ≠ (.slice Ao50 t309.length co50 : Value).ownBlock ∧ some k_ ≠ (.slice Ao51 t310.length co51 : Value).ownBlock ∧ some k_ ≠ (.slice Ao52 t311.length co52 : Value).ownBlock ∧ some k_ ≠ (.slice Ao60 t313.length co60 : Value).ownBlock ∧ some k_ ≠ (.slice Ao61 t314.length co61 : Value).ownBlock ∧ some k_ ≠ (.slice Ao62 t315.length co62 : Value).ownBlock) (Kd.R_keptB (HO_8.out) hkp (fun k_ hk_ hs_ => (hk_.2.1) hs_)) (fun k_ hk_ => ⟨hk_.1.1, hk_.1.2.1, hk_.1.2.2.1, hk_.1.2.2.2.1, hk_.1.2.2.2.2.1, hk_.1.2.2.2.2.2.1, hk_.1.2.2.2.2.2.2.1, hk_.1.2.2.2.2.2.2.2.1, hk_.1.2.2.2.2.2.2.2.2⟩)); replace HO_9 := Aside0.mk (Kd.R_mono (ok' := fun k_ => some k_ ≠ (v241 : Value).ownBlock ∧ some k_ ≠ (.slice Ao132 t273.length co132 : Value).ownBlock ∧ some k_ ≠ (v277 : Value).ownBlock ∧ some k_ ≠ (.slice Ao50 t309.length co50 : Value).ownBlock ∧ some k_ ≠ (.slice Ao51 t310.length co51 : Value).ownBlock ∧ some k_ ≠ (.slice Ao52 t311.length co52 : Value).ownBlock ∧ some k_ ≠ (.slice Ao60 t313.length co60 : Value).ownBlock ∧ some k_ ≠ (.slice Ao61 t314.length co61 : Value).ownBlock ∧ some k_ ≠ (.slice Ao62 t315.length co62 : Value).ownBlock) (Kd.R_keptB (HO_9.out) hkp (fun k_ hk_ hs_ => (hk_.2.1) hs_)) (fun k_ hk_ => ⟨hk_.1.1, hk_.1.2.1, hk_.1.2.2.1, hk_.1.2.2.2.1, hk_.1.2.2.2.2.1, hk_.1.2.2.2.2.2.1, hk_.1.2.2.2.2.2.2.1, hk_.1.2.2.2.2.2.2.2.1, hk_.1.2.2.2.2.2.2.2.2⟩)); replace HO_14 := Aside0.mk (Kd.R_mono (ok' := fun k_ => some k_ ≠ (v241 : Value).ownBlock ∧ some k_ ≠ (v244 : Value).ownBlock ∧ some k_ ≠ (.slice Ao132 t273.length co132 : Value).ownBlock ∧ some k_ ≠ (.slice Ao50 t309.length co50 : Value).ownBlock ∧ some k_ ≠ (.slice Ao51 t310.length co51 : Value).ownBlock ∧ some k_ ≠ (.slice Ao52 t311.length co52 : Value).ownBlock ∧ some k_ ≠ (.slice Ao60 t313.length co60 : Value).ownBlock ∧ some k_ ≠ (.slice Ao61 t314.length co61 : Value).ownBlock ∧ some k_ ≠ (.slice Ao62 t315.length co62 : Value).ownBlock) (Kd.R_keptB (HO_14.out) hkp (fun k_ hk_ hs_ => (hk_.2.2.1) hs_)) (fun k_ hk_ => ⟨hk_.1.1, hk_.1.2.1, hk_.1.2.2.1, hk_.1.2.2.2.1, hk_.1.2.2.2.2.1, hk_.1.2.2.2.2.2.1, hk_.1.2.2.2.2.2.2.1, hk_.1.2.2.2.2.2.2.2.1, hk_.1.2.2.2.2.2.2.2.2⟩)); replace HO_260003 := Aside0.mk (Kd.R_mono (ok' := fun k_ => some k_ ≠ (v241 : Value).ownBlock ∧ some k_ ≠ (v244 : Value).ownBlock ∧ some k_ ≠ (.slice Ao132 t273.length co132 : Value).ownBlock ∧ some k_ ≠ (v277 : Value).ownBlock ∧ some k_ ≠ (.slice Ao51 t310.length co51 : Value).ownBlock ∧ some k_ ≠ (.slice Ao52 t311.length co52 : Value).ownBlock ∧ some k_ ≠ (.slice Ao60 t313.length co60 : Value).ownBlock ∧ some k_ ≠ (.slice Ao61 t314.length co61 : Value).ownBlock ∧ some k_ ≠ (.slice Ao62 t315.length co62 : Value).ownBlock) (Kd.R_keptB (HO_260003.out) hkp (fun k_ hk_ hs_ => (hk_.2.2.1) hs_)) (fun k_ hk_ => ⟨hk_.1.1, hk_.1.2.1, hk_.1.2.2.1, hk_.1.2.2.2.1, hk_.1.2.2.2.2.1, hk_.1.2.2.2.2.2.1, hk_.1.2.2.2.2.2.2.1, hk_.1.2.2.2.2.2.2.2.1, hk_.1.2.2.2.2.2.2.2.2⟩)); replace HO_260004 := Aside0.mk (Kd.R_mono (ok' := fun k_ => some k_ ≠ (v241 : Value).ownBlock ∧ some k_ ≠ (v244 : Value).ownBlock ∧ some k_ ≠ (.slice Ao132 t273.length co132 : Value).ownBlock ∧ some k_ ≠ (v277 : Value).ownBlock ∧ some k_ ≠ (.slice Ao50 t309.length co50 : Value).ownBlock ∧ some k_ ≠ (.slice Ao52 t311.length co52 : Value).ownBlock ∧ some k_ ≠ (.slice Ao60 t313.length co60 : Value).ownBlock ∧ some k_ ≠ (.slice Ao61 t314.length co61 : Value).ownBlock ∧ some k_ ≠ (.slice Ao62 t315.length co62 : Value).ownBlock) (Kd.R_keptB (HO_260004.out) hkp (fun k_ hk_ hs_ => (hk_.2.2.1) hs_)) (fun k_ hk_ => ⟨hk_.1.1, hk_.1.2.1, hk_.1.2.2.1, hk_.1.2.2.2.1, hk_.1.2.2.2.2.1, hk_.1.2.2.2.2.2.1, hk_.1.2.2.2.2.2.2.1, hk_.1.2.2.2.2.2.2.2.1, hk_.1.2.2.2.2.2.2.2.2⟩)); replace HO_260005 := Aside0.mk (Kd.R_mono (ok' := fun k_ => some k_ ≠ (v241 : Value).ownBlock ∧ some k_ ≠ (v244 : Value).ownBlock ∧ some k_ ≠ (.slice Ao132 t273.length co132 : Value).ownBlock ∧ some k_ ≠ (v277 : Value).ownBlock ∧ some k_ ≠ (.slice Ao50 t309.length co50 : Value).ownBlock ∧ some k_ ≠ (.slice Ao51 t310.length co51 : Value).ownBlock ∧ some k_ ≠ (.slice Ao60 t313.length co60 : Value).ownBlock ∧ some k_ ≠ (.slice Ao61 t314.length co61 : Value).ownBlock ∧ some k_ ≠ (.slice Ao62 t315.length co62 : Value).ownBlock) (Kd.R_keptB (HO_260005.out) hkp (fun k_ hk_ hs_ => (hk_.2.2.1) hs_)) (fun k_ hk_ => ⟨hk_.1.1, hk_.1.2.1, hk_.1.2.2.1, hk_.1.2.2.2.1, hk_.1.2.2.2.2.1, hk_.1.2.2.2.2.2.1, hk_.1.2.2.2.2.2.2.1, hk_.1.2.2.2.2.2.2.2.1, hk_.1.2.2.2.2.2.2.2.2⟩)); replace HO_273003 := Aside0.mk (Kd.R_mono (ok' := fun k_ => some k_ ≠ (v241 : Value).ownBlock ∧ some k_ ≠ (v244 : Value).ownBlock ∧ some k_ ≠ (.slice Ao132 t273.length co132 : Value).ownBlock ∧ some k_ ≠ (v277 : Value).ownBlock ∧ some k_ ≠ (.slice Ao50 t309.length co50 : Value).ownBlock ∧ some k_ ≠ (.slice Ao51 t310.length co51 : Value).ownBlock ∧ some k_ ≠ (.slice Ao52 t311.length co52 : Value).ownBlock ∧ some k_ ≠ (.slice Ao61 t314.length co61 : Value).ownBlock ∧ some k_ ≠ (.slice Ao62 t315.length co62 : Value).ownBlock) (Kd.R_keptB (HO_273003.out) hkp (fun k_ hk_ hs_ => (hk_.2.2.1) hs_)) (fun k_ hk_ => ⟨hk_.1.1, hk_.1.2.1, hk_.1.2.2.1, hk_.1.2.2.2.1, hk_.1.2.2.2.2.1, hk_.1.2.2.2.2.2.1, hk_.1.2.2.2.2.2.2.1, hk_.1.2.2.2.2.2.2.2.1, hk_.1.2.2.2.2.2.2.2.2⟩)); replace HO_273004 := Aside0.mk (Kd.R_mono (ok' := fun k_ => some k_ ≠ (v241 : Value).ownBlock ∧ some k_ ≠ (v244 : Value).ownBlock ∧ some k_ ≠ (.slice Ao132 t273.length co132 : Value).ownBlock ∧ some k_ ≠ (v277 : Value).ownBlock ∧ some k_ ≠ (.slice Ao50 t309.length co50 : Value).ownBlock ∧ some k_ ≠ (.slice Ao51 t310.length co51 : Value).ownBlock ∧ some k_ ≠ (.slice Ao52 t311.length co52 : Value).ownBlock ∧ some k_ ≠ (.slice Ao60 t313.length co60 : Value).ownBlock ∧ some k_ ≠ (.slice Ao62 t315.length co62 : Value).ownBlock) (Kd.R_keptB (HO_273004.out) hkp (fun k_ hk_ hs_ => (hk_.2.2.1) hs_)) (fun k_ hk_ => ⟨hk_.1.1, hk_.1.2.1, hk_.1.2.2.1, hk_.1.2.2.2.1, hk_.1.2.2.2.2.1, hk_.1.2.2.2.2.2.1, hk_.1.2.2.2.2.2.2.1, hk_.1.2.2.2.2.2.2.2.1, hk_.1.2.2.2.2.2.2.2.2⟩)); replace HO_273005 := Aside0.mk (Kd.R_mono (ok' := fun k_ => some k_ ≠ (v241 : Value).ownBlock ∧ some k_ ≠ (v244 : Value).ownBlock ∧ some k_ ≠ (.slice Ao132 t273.length co132 : Value).ownBlock ∧ some k_ ≠ (v277 : Value).ownBlock ∧ some k_ ≠ (.slice Ao50 t309.length co50 : Value).ownBlock ∧ some k_ ≠ (.slice Ao51 t310.length co51 : Value).ownBlock ∧ some k_ ≠ (.slice Ao52 t311.length co52 : Value).ownBlock ∧ some k_ ≠ (.slice Ao60 t313.length co60 : Value).ownBlock ∧ some k_ ≠ (.slice Ao61 t314.length co61 : Value).ownBlock) (Kd.R_keptB (HO_273005.out) hkp (fun k_ hk_ hs_ => (hk_.2.2.1) hs_)) (fun k_ hk_ => ⟨hk_.1.1, hk_.1.2.1, hk_.1.2.2.1, hk_.1.2.2.2.1, hk_.1.2.2.2.2.1, hk_.1.2.2.2.2.2.1, hk_.1.2.2.2.2.2.2.1, hk_.1.2.2.2.2.2.2.2.1, hk_.1.2.2.2.2.2.2.2.2⟩)); replace BK212 := Aside0.mk (blk_kept (rBx7 BK212.out) hkp (fun hs_ => (fun e_ => (Kd.R_ne HO_13.out BK212.out (by decide)) e_) hs_)); replace BK213 := Aside0.mk (blk_kept (rBx7 BK213.out) hkp (fun hs_ => (fun e_ => (Kd.R_ne HO_13.out BK213.out (by decide)) e_) hs_)); replace BK259 := Aside0.mk (blk_kept (rBx7 BK259.out) hkp (fun hs_ => (fun e_ => (Kd.R_ne HO_13.out BK259.out (by decide)) e_) hs_)); replace BK272 := Aside0.mk (blk_kept (rBx7 BK272.out) hkp (fun hs_ => (fun e_ => (Kd.R_ne HO_13.out BK272.out (by decide)) e_) hs_)); replace HO_13 := Aside0.mk (Kd.R_reok rfl hy0 (fun k_ e_ => HO_13.out.1 k_ e_)); replace HB := Aside0.mk (hb); (try clear hb); (try clear hkp); (try clear hy0); obtain ⟨Ao134, co134, eo134⟩ := Kd.R_slice HO_14.out; subst eo134) | ((with_reducible refine gate_callee (f := 37) rfl ?_); refine goesL_ (some 109) rfl rfl Try.func37 (by kernel_rfl) rfl #[.slice Ao134 t276.length co134, .int .i64 t318] rfl mpx7 ?_; (with_reducible refine (laws_markIntS.calls kj101 (fun k_ => some k_ = (.slice Ao134 t276.length co134 : Value).ownBlock) (.slice Ao134 t276.length co134) t276 t318 t320 t321 w _ ?side1 ?side2 A129.out).mono ?_); (case side1 => exact be4x7 HB.out GE212.out GE213.out GE259.out GE272.out); (case side2 => exact Kd.R_tight rfl HO_14.out); rintro e w135 ⟨rfl, hy0, hb, hkp⟩; refine ⟨_, rfl, ?_⟩; replace HO_8 := Aside0.mk (Kd.R_mono (ok' := fun k_ => some k_ ≠ (v244 : Value).ownBlock ∧ some k_ ≠ (.slice Ao132 t273.length co132 : Value).ownBlock ∧ some k_ ≠ (.slice Ao134 t276.length co134 : Value).ownBlock ∧ some k_ ≠ (.slice Ao50 t309.length co50 : Value).ownBlock ∧ some k_ ≠ (.slice Ao51 t310.length co51 : Value).ownBlock ∧ some k_ ≠ (.slice Ao52 t311.length co52 : Value).ownBlock ∧ some k_ ≠ (.slice Ao60 t313.length co60 : Value).ownBlock ∧ some k_ ≠ (.slice Ao61 t314.length co61 : Value).ownBlock ∧ some k_ ≠ (.slice Ao62 t315.length co62 : Value).ownBlock) (Kd.R_keptB (HO_8.out) hkp (fun k_ hk_ hs_ => (hk_.2.2.1) hs_)) (fun k_ hk_ => ⟨hk_.1.1, hk_.1.2.1, hk_.1.2.2.1, hk_.1.2.2.2.1, hk_.1.2.2.2.2.1, hk_.1.2.2.2.2.2.1, hk_.1.2.2.2.2.2.2.1, hk_.1.2.2.2.2.2.2.2.1, hk_.1.2.2.2.2.2.2.2.2⟩)); replace HO_9 := Aside0.mk (Kd.R_mono (ok' := fun k_ => some k_ ≠ (v241 : Value).ownBlock ∧ some k_ ≠ (.slice Ao132 t273.length co132 : Value).ownBlock ∧ some k_ ≠ (.slice Ao134 t276.length co134 : Value).ownBlock ∧ some k_ ≠ (.slice Ao50 t309.length co50 : Value).ownBlock ∧ some k_ ≠ (.slice Ao51 t310.length co51 : Value).ownBlock ∧ some k_ ≠ (.slice Ao52 t311.length co52 : Value).ownBlock ∧ some k_ ≠ (.slice Ao60 t313.length co60 : Value).ownBlock ∧ some k_ ≠ (.slice Ao61 t314.length co61 : Value).ownBlock ∧ some k_ ≠ (.slice Ao62 t315.length co62 : Value).ownBlock) (Kd.R_keptB (HO_9.out) hkp (fun k_ hk_ hs_ => (hk_.2.2.1) hs_)) (fun k_ hk_ => ⟨hk_.1.1, hk_.1.2.1, hk_.1.2.2.1, hk_.1.2.2.2.1, hk_.1.2.2.2.2.1, hk_.1.2.2.2.2.2.1, hk_.1.2.2.2.2.2.2.1, hk_.1.2.2.2.2.2.2.2.1, hk_.1.2.2.2.2.2.2.2.2⟩)); replace HO_13 := Aside0.mk (Kd.R_mono (ok' := fun k_ => some k_ ≠ (v241 : Value).ownBlock ∧ some k_ ≠ (v244 : Value).ownBlock ∧ some k_ ≠ (.slice Ao134 t276.length co134 : Value).ownBlock ∧ some k_ ≠ (.slice Ao50 t309.length co50 : Value).ownBlock ∧ some k_ ≠ (.slice Ao51 t310.length co51 : Value).ownBlock ∧ some k_ ≠ (.slice Ao52 t311.length co52 : Value).ownBlock ∧ some k_ ≠ (.slice Ao60 t313.length co60 : Value).ownBlock ∧ some k_ ≠ (.slice Ao61 t314.length co61 : Value).ownBlock ∧ some k_ ≠ (.slice Ao62 t315.length co62 : Value).ownBlock) (Kd.R_keptB (HO_13.out) hkp (fun k_ hk_ hs_ => (hk_.2.2.1) hs_)) (fun k_ hk_ => ⟨hk_.1.1, hk_.1.2.1, hk_.1.2.2.1, hk_.1.2.2.2.1, hk_.1.2.2.2.2.1, hk_.1.2.2.2.2.2.1, hk_.1.2.2.2.2.2.2.1, hk_.1.2.2.2.2.2.2.2.1, hk_.1.2.2.2.2.2.2.2.2⟩)); replace HO_260003 := Aside0.mk (Kd.R_mono (ok' := fun k_ => some k_ ≠ (v241 : Value).ownBlock ∧ some k_ ≠ (v244 : Value).ownBlock ∧ some k_ ≠ (.slice Ao132 t273.length co132 : Value).ownBlock ∧ some k_ ≠ (.slice Ao134 t276.length co134 : Value).ownBlock ∧ some k_ ≠ (.slice Ao51 t310.length co51 : Value).ownBlock ∧ some k_ ≠ (.slice Ao52 t311.length co52 : Value).ownBlock ∧ some k_ ≠ (.slice Ao60 t313.length co60 : Value).ownBlock ∧ some k_ ≠ (.slice Ao61 t314.length co61 : Value).ownBlock ∧ some k_ ≠ (.slice Ao62 t315.length co62 : Value).ownBlock) (Kd.R_keptB (HO_260003.out) hkp (fun k_ hk_ hs_ => (hk_.2.2.2.1) hs_)) (fun k_ hk_ => ⟨hk_.1.1, hk_.1.2.1, hk_.1.2.2.1, hk_.1.2.2.2.1, hk_.1.2.2.2.2.1, hk_.1.2.2.2.2.2.1, hk_.1.2.2.2.2.2.2.1, hk_.1.2.2.2.2.2.2.2.1, hk_.1.2.2.2.2.2.2.2.2⟩)); replace HO_260004 := Aside0.mk (Kd.R_mono (ok' := fun k_ => some k_ ≠ (v241 : Value).ownBlock ∧ some k_ ≠ (v244 : Value).ownBlock ∧ some k_ ≠ (.slice Ao132 t273.length co132 : Value).ownBlock ∧ some k_ ≠ (.slice Ao134 t276.length co134 : Value).ownBlock ∧ some k_ ≠ (.slice Ao50 t309.length co50 : Value).ownBlock ∧ some k_ ≠ (.slice Ao52 t311.length co52 : Value).ownBlock ∧ some k_ ≠ (.slice Ao60 t313.length co60 : Value).ownBlock ∧ some k_ ≠ (.slice Ao61 t314.length co61 : Value).ownBlock ∧ some k_ ≠ (.slice Ao62 t315.length co62 : Value).ownBlock) (Kd.R_keptB (HO_260004.out) hkp (fun k_ hk_ hs_ => (hk_.2.2.2.1) hs_)) (fun k_ hk_ => ⟨hk_.1.1, hk_.1.2.1, hk_.1.2.2.1, hk_.1.2.2.2.1, hk_.1.2.2.2.2.1, hk_.1.2.2.2.2.2.1, hk_.1.2.2.2.2.2.2.1, hk_.1.2.2.2.2.2.2.2.1, hk_.1.2.2.2.2.2.2.2.2⟩)); replace HO_260005 := Aside0.mk (Kd.R_mono (ok' := fun k_ => some k_ ≠ (v241 : Value).ownBlock ∧ some k_ ≠ (v244 : Value).ownBlock ∧ some k_ ≠ (.slice Ao132 t273.length co132 : Value).ownBlock ∧ some k_ ≠ (.slice Ao134 t276.length co134 : Value).ownBlock ∧ some k_ ≠ (.slice Ao50 t309.length co50 : Value).ownBlock ∧ some k_ ≠ (.slice Ao51 t310.length co51 : Value).ownBlock ∧ some k_ ≠ (.slice Ao60 t313.length co60 : Value).ownBlock ∧ some k_ ≠ (.slice Ao61 t314.length co61 : Value).ownBlock ∧ some k_ ≠ (.slice Ao62 t315.length co62 : Value).ownBlock) (Kd.R_keptB (HO_260005.out) hkp (fun k_ hk_ hs_ => (hk_.2.2.2.1) hs_)) (fun k_ hk_ => ⟨hk_.1.1, hk_.1.2.1, hk_.1.2.2.1, hk_.1.2.2.2.1, hk_.1.2.2.2.2.1, hk_.1.2.2.2.2.2.1, hk_.1.2.2.2.2.2.2.1, hk_.1.2.2.2.2.2.2.2.1, hk_.1.2.2.2.2.2.2.2.2⟩)); replace HO_273003 := Aside0.mk (Kd.R_mono (ok' := fun k_ => some k_ ≠ (v241 : Value).ownBlock ∧ some k_ ≠ (v244 : Value).ownBlock ∧ some k_ ≠ (.slice Ao132 t273.length co132 : Value).ownBlock ∧ some k_ ≠ (.slice Ao134 t276.length co134 : Value).ownBlock ∧ some k_ ≠ (.slice Ao50 t309.length co50 : Value).ownBlock ∧ some k_ ≠ (.slice Ao51 t310.length co51 : Value).ownBlock ∧ some k_ ≠ (.slice Ao52 t311.length co52 : Value).ownBlock ∧ some k_ ≠ (.slice Ao61 t314.length co61 : Value).ownBlock ∧ some k_ ≠ (.slice Ao62 t315.length co62 : Value).ownBlock) (Kd.R_keptB (HO_273003.out) hkp (fun k_ hk_ hs_ => (hk_.2.2.2.1) hs_)) (fun k_ hk_ => ⟨hk_.1.1, hk_.1.2.1, hk_.1.2.2.1, hk_.1.2.2.2.1, hk_.1.2.2.2.2.1, hk_.1.2.2.2.2.2.1, hk_.1.2.2.2.2.2.2.1, hk_.1.2.2.2.2.2.2.2.1, hk_.1.2.2.2.2.2.2.2.2⟩)); replace HO_273004 := Aside0.mk (Kd.R_mono (ok' := fun k_ => some k_ ≠ (v241 : Value).ownBlock ∧ some k_ ≠ (v244 : Value).ownBlock ∧ some k_ ≠ (.slice Ao132 t273.length co132 : Value).ownBlock ∧ some k_ ≠ (.slice Ao134 t276.length co134 : Value).ownBlock ∧ some k_ ≠ (.slice Ao50 t309.length co50 : Value).ownBlock ∧ some k_ ≠ (.slice Ao51 t310.length co51 : Value).ownBlock ∧ some k_ ≠ (.slice Ao52 t311.length co52 : Value).ownBlock ∧ some k_ ≠ (.slice Ao60 t313.length co60 : Value).ownBlock ∧ some k_ ≠ (.slice Ao62 t315.length co62 : Value).ownBlock) (Kd.R_keptB (HO_273004.out) hkp (fun k_ hk_ hs_ => (hk_.2.2.2.1) hs_)) (fun k_ hk_ => ⟨hk_.1.1, hk_.1.2.1, hk_.1.2.2.1, hk_.1.2.2.2.1, hk_.1.2.2.2.2.1, hk_.1.2.2.2.2.2.1, hk_.1.2.2.2.2.2.2.1, hk_.1.2.2.2.2.2.2.2.1, hk_.1.2.2.2.2.2.2.2.2⟩)); replace HO_273005 := Aside0.mk (Kd.R_mono (ok' := fun k_ => some k_ ≠ (v241 : Value).ownBlock ∧ some k_ ≠ (v244 : Value).ownBlock ∧ some k_ ≠ (.slice Ao132 t273.length co132 : Value).ownBlock ∧ some k_ ≠ (.slice Ao134 t276.length co134 : Value).ownBlock ∧ some k_ ≠ (.slice Ao50 t309.length co50 : Value).ownBlock ∧ some k_ ≠ (.slice Ao51 t310.length co51 : Value).ownBlock ∧ some k_ ≠ (.slice Ao52 t311.length co52 : Value).ownBlock ∧ some k_ ≠ (.slice Ao60 t313.length co60 : Value).ownBlock ∧ some k_ ≠ (.slice Ao61 t314.length co61 : Value).ownBlock) (Kd.R_keptB (HO_273005.out) hkp (fun k_ hk_ hs_ => (hk_.2.2.2.1) hs_)) (fun k_ hk_ => ⟨hk_.1.1, hk_.1.2.1, hk_.1.2.2.1, hk_.1.2.2.2.1, hk_.1.2.2.2.2.1, hk_.1.2.2.2.2.2.1, hk_.1.2.2.2.2.2.2.1, hk_.1.2.2.2.2.2.2.2.1, hk_.1.2.2.2.2.2.2.2.2⟩)); replace BK212 := Aside0.mk (blk_kept (rBx7 BK212.out) hkp (fun hs_ => (fun e_ => (Kd.R_ne HO_14.out BK212.out (by decide)) e_) hs_)); replace BK213 := Aside0.mk (blk_kept (rBx7 BK213.out) hkp (fun hs_ => (fun e_ => (Kd.R_ne HO_14.out BK213.out (by decide)) e_) hs_)); replace BK259 := Aside0.mk (blk_kept (rBx7 BK259.out) hkp (fun hs_ => (fun e_ => (Kd.R_ne HO_14.out BK259.out (by decide)) e_) hs_)); replace BK272 := Aside0.mk (blk_kept (rBx7 BK272.out) hkp (fun hs_ => (fun e_ => (Kd.R_ne HO_14.out BK272.out (by decide)) e_) hs_)); replace HO_14 := Aside0.mk (Kd.R_reok rfl hy0 (fun k_ e_ => HO_14.out.1 k_ e_)); replace HB := Aside0.mk (hb); (try clear hb); (try clear hkp); (try clear hy0)) | ((with_reducible refine gate_callee (f := 38) rfl ?_); refine goesL_ (some 112) rfl rfl Try.func38 (by kernel_rfl) rfl #[.slice Ao132 t319.length co132, .int .i64 1] rfl (by (try simp only [List.map_toArray, List.map_cons, List.map_nil]); first | done | (rw [show t319.length = t273.length from (Kd.R_reads' HO_13.out).1.symm] <;> rfl) | rfl | (simp only [List.length_drop, List.length_take]; rfl)) ?_; (with_reducible refine (laws_heldIntS.calls kj101 _ _ t319 1 t322 _ ?side1 ?side2 A130.out).mono ?_); (case side1 => exact cRx7 HO_13.out); (case side2 => rw [show t319.length = t273.length from (Kd.R_reads' HO_13.out).1.symm]; exact (Kd.R_reads' HO_13.out).2.1); rintro e w' ⟨rfl, ⟨nd, rfl⟩⟩; refine ⟨_, rfl, ?_⟩))
             (try simp only [Act.put, List.setIfInBounds_toArray, List.set_cons_zero, List.set_cons_succ])
             go_cut [] (fun wc => ∃ (kq : Nat), Aside0 (laws_FnExactKindChanges.j4 kq a2 t240 t243 t246 t319 t321 t320 t322 a0_0 a0_1 a0_2 l0_3 l0_4 l0_5 a1_0 a1_1 a1_2 l1_3 l1_4 l1_5 = some r) ∧ Aside0 (kq ≤ kj101) ∧ Aside0 (Kd.R (Kd.int .i64) 3 wc w.heap.size (fun k_ => some k_ ≠ (v244 : Value).ownBlock ∧ some k_ ≠ ((.slice Ao132 t273.length co132) : Value).ownBlock ∧ some k_ ≠ ((.slice Ao134 t276.length co134) : Value).ownBlock ∧ some k_ ≠ ((.slice Ao50 t309.length co50) : Value).ownBlock ∧ some k_ ≠ ((.slice Ao51 t310.length co51) : Value).ownBlock ∧ some k_ ≠ ((.slice Ao52 t311.length co52) : Value).ownBlock ∧ some k_ ≠ ((.slice Ao60 t313.length co60) : Value).ownBlock ∧ some k_ ≠ ((.slice Ao61 t314.length co61) : Value).ownBlock ∧ some k_ ≠ ((.slice Ao62 t315.length co62) : Value).ownBlock) v241 t240) ∧ Aside0 (Kd.R (Kd.int .i64) 3 wc w.heap.size (fun k_ => some k_ ≠ (v241 : Value).ownBlock ∧ some k_ ≠ ((.slice Ao132 t273.length co132) : Value).ownBlock ∧ some k_ ≠ ((.slice Ao134 t276.length co134) : Value).ownBlock ∧ some k_ ≠ ((.slice Ao50 t309.length co50) : Value).ownBlock ∧ some k_ ≠ ((.slice Ao51 t310.length co51) : Value).ownBlock ∧ some k_ ≠ ((.slice Ao52 t311.length co52) : Value).ownBlock ∧ some k_ ≠ ((.slice Ao60 t313.length co60) : Value).ownBlock ∧ some k_ ≠ ((.slice Ao61 t314.length co61) : Value).ownBlock ∧ some k_ ≠ ((.slice Ao62 t315.length co62) : Value).ownBlock) v244 t243) ∧ Aside0 (Kd.R (Kd.int .i64) 3 wc w.heap.size (fun k_ => some k_ ≠ (v241 : Value).ownBlock ∧ some k_ ≠ (v244 : Value).ownBlock ∧ some k_ ≠ ((.slice Ao134 t276.length co134) : Value).ownBlock ∧ some k_ ≠ ((.slice Ao50 t309.length co50) : Value).ownBlock ∧ some k_ ≠ ((.slice Ao51 t310.length co51) : Value).ownBlock ∧ some k_ ≠ ((.slice Ao52 t311.length co52) : Value).ownBlock ∧ some k_ ≠ ((.slice Ao60 t313.length co60) : Value).ownBlock ∧ some k_ ≠ ((.slice Ao61 t314.length co61) : Value).ownBlock ∧ some k_ ≠ ((.slice Ao62 t315.length co62) : Value).ownBlock) (.slice Ao132 t273.length co132) t319) ∧ Aside0 (Kd.R (Kd.int .i64) 3 wc w.heap.size (fun k_ => some k_ ≠ (v241 : Value).ownBlock ∧ some k_ ≠ (v244 : Value).ownBlock ∧ some k_ ≠ ((.slice Ao132 t273.length co132) : Value).ownBlock ∧ some k_ ≠ ((.slice Ao50 t309.length co50) : Value).ownBlock ∧ some k_ ≠ ((.slice Ao51 t310.length co51) : Value).ownBlock ∧ some k_ ≠ ((.slice Ao52 t311.length co52) : Value).ownBlock ∧ some k_ ≠ ((.slice Ao60 t313.length co60) : Value).ownBlock ∧ some k_ ≠ ((.slice Ao61 t314.length co61) : Value).ownBlock ∧ some k_ ≠ ((.slice Ao62 t315.length co62) : Value).ownBlock) (.slice Ao134 t276.length co134) t321) ∧ Aside0 (Kd.R (Kd.int .i64) 3 wc w.heap.size (fun k_ => some k_ ≠ (v241 : Value).ownBlock ∧ some k_ ≠ (v244 : Value).ownBlock ∧ some k_ ≠ ((.slice Ao132 t273.length co132) : Value).ownBlock ∧ some k_ ≠ ((.slice Ao134 t276.length co134) : Value).ownBlock ∧ some k_ ≠ ((.slice Ao51 t310.length co51) : Value).ownBlock ∧ some k_ ≠ ((.slice Ao52 t311.length co52) : Value).ownBlock ∧ some k_ ≠ ((.slice Ao60 t313.length co60) : Value).ownBlock ∧ some k_ ≠ ((.slice Ao61 t314.length co61) : Value).ownBlock ∧ some k_ ≠ ((.slice Ao62 t315.length co62) : Value).ownBlock) (.slice Ao50 t309.length co50) t309) ∧ Aside0 (Kd.R (Kd.int .i64) 3 wc w.heap.size (fun k_ => some k_ ≠ (v241 : Value).ownBlock ∧ some k_ ≠ (v244 : Value).ownBlock ∧ some k_ ≠ ((.slice Ao132 t273.length co132) : Value).ownBlock ∧ some k_ ≠ ((.slice Ao134 t276.length co134) : Value).ownBlock ∧ some k_ ≠ ((.slice Ao50 t309.length co50) : Value).ownBlock ∧ some k_ ≠ ((.slice Ao52 t311.length co52) : Value).ownBlock ∧ some k_ ≠ ((.slice Ao60 t313.length co60) : Value).ownBlock ∧ some k_ ≠ ((.slice Ao61 t314.length co61) : Value).ownBlock ∧ some k_ ≠ ((.slice Ao62 t315.length co62) : Value).ownBlock) (.slice Ao51 t310.length co51) t310) ∧ Aside0 (Kd.R (Kd.int .i64) 3 wc w.heap.size (fun k_ => some k_ ≠ (v241 : Value).ownBlock ∧ some k_ ≠ (v244 : Value).ownBlock ∧ some k_ ≠ ((.slice Ao132 t273.length co132) : Value).ownBlock ∧ some k_ ≠ ((.slice Ao134 t276.length co134) : Value).ownBlock ∧ some k_ ≠ ((.slice Ao50 t309.length co50) : Value).ownBlock ∧ some k_ ≠ ((.slice Ao51 t310.length co51) : Value).ownBlock ∧ some k_ ≠ ((.slice Ao60 t313.length co60) : Value).ownBlock ∧ some k_ ≠ ((.slice Ao61 t314.length co61) : Value).ownBlock ∧ some k_ ≠ ((.slice Ao62 t315.length co62) : Value).ownBlock) (.slice Ao52 t311.length co52) t311) ∧ Aside0 (Kd.R (Kd.int .i64) 3 wc w.heap.size (fun k_ => some k_ ≠ (v241 : Value).ownBlock ∧ some k_ ≠ (v244 : Value).ownBlock ∧ some k_ ≠ ((.slice Ao132 t273.length co132) : Value).ownBlock ∧ some k_ ≠ ((.slice Ao134 t276.length co134) : Value).ownBlock ∧ some k_ ≠ ((.slice Ao50 t309.length co50) : Value).ownBlock ∧ some k_ ≠ ((.slice Ao51 t310.length co51) : Value).ownBlock ∧ some k_ ≠ ((.slice Ao52 t311.length co52) : Value).ownBlock ∧ some k_ ≠ ((.slice Ao61 t314.length co61) : Value).ownBlock ∧ some k_ ≠ ((.slice Ao62 t315.length co62) : Value).ownBlock) (.slice Ao60 t313.length co60) t313) ∧ Aside0 (Kd.R (Kd.int .i64) 3 wc w.heap.size (fun k_ => some k_ ≠ (v241 : Value).ownBlock ∧ some k_ ≠ (v244 : Value).ownBlock ∧ some k_ ≠ ((.slice Ao132 t273.length co132) : Value).ownBlock ∧ some k_ ≠ ((.slice Ao134 t276.length co134) : Value).ownBlock ∧ some k_ ≠ ((.slice Ao50 t309.length co50) : Value).ownBlock ∧ some k_ ≠ ((.slice Ao51 t310.length co51) : Value).ownBlock ∧ some k_ ≠ ((.slice Ao52 t311.length co52) : Value).ownBlock ∧ some k_ ≠ ((.slice Ao60 t313.length co60) : Value).ownBlock ∧ some k_ ≠ ((.slice Ao62 t315.length co62) : Value).ownBlock) (.slice Ao61 t314.length co61) t314) ∧ Aside0 (Kd.R (Kd.int .i64) 3 wc w.heap.size (fun k_ => some k_ ≠ (v241 : Value).ownBlock ∧ some k_ ≠ (v244 : Value).ownBlock ∧ some k_ ≠ ((.slice Ao132 t273.length co132) : Value).ownBlock ∧ some k_ ≠ ((.slice Ao134 t276.length co134) : Value).ownBlock ∧ some k_ ≠ ((.slice Ao50 t309.length co50) : Value).ownBlock ∧ some k_ ≠ ((.slice Ao51 t310.length co51) : Value).ownBlock ∧ some k_ ≠ ((.slice Ao52 t311.length co52) : Value).ownBlock ∧ some k_ ≠ ((.slice Ao60 t313.length co60) : Value).ownBlock ∧ some k_ ≠ ((.slice Ao61 t314.length co61) : Value).ownBlock) (.slice Ao62 t315.length co62) t315) ∧ Aside0 (wc.heap[gb212]? = some (.cells #[.int .i64 a0_0, .int .i64 a0_1, .int .i64 a0_2, (.slice A0_3 l0_3.length c0_3), (.slice A0_4 l0_4.length c0_4), (.slice A0_5 l0_5.length c0_5)] 38 (0, 0))) ∧ Aside0 (wc.heap[gb213]? = some (.cells #[.int .i64 a1_0, .int .i64 a1_1, .int .i64 a1_2, (.slice A1_3 l1_3.length c1_3), (.slice A1_4 l1_4.length c1_4), (.slice A1_5 l1_5.length c1_5)] 38 (0, 0))) ∧ Aside0 (wc.heap[gb259]? = some (.cells #[.int .i64 t247, .int .i64 t248, .int .i64 t249, (.slice Ao50 t309.length co50), (.slice Ao51 t310.length co51), (.slice Ao52 t311.length co52)] 44 (0, 0))) ∧ Aside0 (wc.heap[gb272]? = some (.cells #[.int .i64 t260, .int .i64 t261, .int .i64 t262, (.slice Ao60 t313.length co60), (.slice Ao61 t314.length co61), (.slice Ao62 t315.length co62)] 44 (0, 0))) ∧ Aside0 (Below w.heap.size w wc))
             case first =>
              have H := HC131.out
              clear HC131
              by_cases c136 : t322 < 0
              ·rw [if_pos c136] at H
               have c136b0 : decide (t322 < 0) = true := decide_eq_true c136
               clear c136
               (first | rw [c136b0] | (simp only [i64_w, i32_w]; rw [c136b0]) | skip)
               obtain rfl := Option.some.inj H
               go_wp2
               go_ret
               exact ⟨by first | rfl | (simp [errW_none, errW_some] <;> rfl) | (simp [*, errW_none, errW_some] <;> rfl), be4x7 HB.out GE212.out GE213.out GE259.out GE272.out⟩
              ·rw [if_neg c136] at H
               have c136b0 : decide (t322 < 0) = false := decide_eq_false c136
               clear c136
               (first | rw [c136b0] | (simp only [i64_w, i32_w]; rw [c136b0]) | skip)
               have H' := Aside0.mk H
               clear H
               go_wp2
               go_meet
               case rel => exact ⟨_, H', ⟨by have := HJ25.out; have := HJ81.out; have := HJ91.out; have := HJ101.out; first | omega | exact Nat.le_refl _⟩, ⟨by (try simp only [hl260003_101, hl260004_101, hl260005_101, hl273003_101, hl273004_101, hl273005_101]); (with_reducible repeat (first | apply Kd.R_alloc | apply Kd.R_drewN | apply Kd.R_drew)); exact HO_8.out⟩, ⟨by (try simp only [hl260003_101, hl260004_101, hl260005_101, hl273003_101, hl273004_101, hl273005_101]); (with_reducible repeat (first | apply Kd.R_alloc | apply Kd.R_drewN | apply Kd.R_drew)); exact HO_9.out⟩, ⟨by (try simp only [hl260003_101, hl260004_101, hl260005_101, hl273003_101, hl273004_101, hl273005_101]); (with_reducible repeat (first | apply Kd.R_alloc | apply Kd.R_drewN | apply Kd.R_drew)); exact HO_13.out⟩, ⟨by (try simp only [hl260003_101, hl260004_101, hl260005_101, hl273003_101, hl273004_101, hl273005_101]); (with_reducible repeat (first | apply Kd.R_alloc | apply Kd.R_drewN | apply Kd.R_drew)); exact HO_14.out⟩, ⟨by (try simp only [hl260003_101, hl260004_101, hl260005_101, hl273003_101, hl273004_101, hl273005_101]); (with_reducible repeat (first | apply Kd.R_alloc | apply Kd.R_drewN | apply Kd.R_drew)); exact HO_260003.out⟩, ⟨by (try simp only [hl260003_101, hl260004_101, hl260005_101, hl273003_101, hl273004_101, hl273005_101]); (with_reducible repeat (first | apply Kd.R_alloc | apply Kd.R_drewN | apply Kd.R_drew)); exact HO_260004.out⟩, ⟨by (try simp only [hl260003_101, hl260004_101, hl260005_101, hl273003_101, hl273004_101, hl273005_101]); (with_reducible repeat (first | apply Kd.R_alloc | apply Kd.R_drewN | apply Kd.R_drew)); exact HO_260005.out⟩, ⟨by (try simp only [hl260003_101, hl260004_101, hl260005_101, hl273003_101, hl273004_101, hl273005_101]); (with_reducible repeat (first | apply Kd.R_alloc | apply Kd.R_drewN | apply Kd.R_drew)); exact HO_273003.out⟩, ⟨by (try simp only [hl260003_101, hl260004_101, hl260005_101, hl273003_101, hl273004_101, hl273005_101]); (with_reducible repeat (first | apply Kd.R_alloc | apply Kd.R_drewN | apply Kd.R_drew)); exact HO_273004.out⟩, ⟨by (try simp only [hl260003_101, hl260004_101, hl260005_101, hl273003_101, hl273004_101, hl273005_101]); (with_reducible repeat (first | apply Kd.R_alloc | apply Kd.R_drewN | apply Kd.R_drew)); exact HO_273005.out⟩, ⟨by (try simp only [hl260003_101, hl260004_101, hl260005_101, hl273003_101, hl273004_101, hl273005_101]); (with_reducible repeat (first | refine blk_drewN ?_ _ | refine blk_drew ?_ | refine blk_alloc ?_ _)); exact BK212.out⟩, ⟨by (try simp only [hl260003_101, hl260004_101, hl260005_101, hl273003_101, hl273004_101, hl273005_101]); (with_reducible repeat (first | refine blk_drewN ?_ _ | refine blk_drew ?_ | refine blk_alloc ?_ _)); exact BK213.out⟩, ⟨by (try simp only [hl260003_101, hl260004_101, hl260005_101, hl273003_101, hl273004_101, hl273005_101]); (with_reducible repeat (first | refine blk_drewN ?_ _ | refine blk_drew ?_ | refine blk_alloc ?_ _)); exact BK259.out⟩, ⟨by (try simp only [hl260003_101, hl260004_101, hl260005_101, hl273003_101, hl273004_101, hl273005_101]); (with_reducible repeat (first | refine blk_drewN ?_ _ | refine blk_drew ?_ | refine blk_alloc ?_ _)); exact BK272.out⟩, ⟨be4x7 HB.out GE212.out GE213.out GE259.out GE272.out⟩⟩
             case rest =>
              clear HC131
              try clear c127; try clear c136; try clear c136b0
              obtain ⟨kq, HA, HJ130, HO_8, HO_9, HO_13, HO_14, HO_260003, HO_260004, HO_260005, HO_273003, HO_273004, HO_273005, BK212, BK213, BK259, BK272, HB⟩ := hcut
              have hl13_130 := (Kd.R_reads' HO_13.out).1
              rw [hl13_130] at HO_13
              (try simp only [hl13_130])
              (try simp only [hl13_130] at BK212)
              (try simp only [hl13_130] at BK213)
              (try simp only [hl13_130] at BK259)
              (try simp only [hl13_130] at BK272)
              (try simp only [hl13_130] at HO_8)
              (try simp only [hl13_130] at HO_9)
              (try simp only [hl13_130] at HO_14)
              (try simp only [hl13_130] at HO_260003)
              (try simp only [hl13_130] at HO_260004)
              (try simp only [hl13_130] at HO_260005)
              (try simp only [hl13_130] at HO_273003)
              (try simp only [hl13_130] at HO_273004)
              (try simp only [hl13_130] at HO_273005)
              have hl14_130 := (Kd.R_reads' HO_14.out).1
              rw [hl14_130] at HO_14
              (try simp only [hl14_130])
              (try simp only [hl14_130] at BK212)
              (try simp only [hl14_130] at BK213)
              (try simp only [hl14_130] at BK259)
              (try simp only [hl14_130] at BK272)
              (try simp only [hl14_130] at HO_8)
              (try simp only [hl14_130] at HO_9)
              (try simp only [hl14_130] at HO_13)
              (try simp only [hl14_130] at HO_260003)
              (try simp only [hl14_130] at HO_260004)
              (try simp only [hl14_130] at HO_260005)
              (try simp only [hl14_130] at HO_273003)
              (try simp only [hl14_130] at HO_273004)
              (try simp only [hl14_130] at HO_273005)
              cases kq with
              | zero => exact absurd HA.out (by simp [laws_FnExactKindChanges.j4])
              | succ kj130 =>
               have H := HA.out
               clear HA
               simp only [laws_FnExactKindChanges.j4] at H
               replace H := Option.bind_eq_some_iff.mp H
               obtain ⟨t323, A1370, H⟩ := H
               have A137 := Aside0.mk A1370
               clear A1370
               by_cases c138 : t323 < 0
               ·rw [if_pos c138] at H
                have c138b0 : decide (t323 < 0) = true := decide_eq_true c138
                clear c138
                obtain rfl := Option.some.inj H
                go_wp2_with (first | ((with_reducible refine gate_callee (f := 38) rfl ?_); refine goesL_ (some 117) rfl rfl Try.func38 (by kernel_rfl) rfl #[.slice Ao134 t321.length co134, .int .i64 t322] rfl mpx7 ?_; (with_reducible refine (laws_heldIntS.calls kj130 _ _ t321 t322 t323 _ ?side1 ?side2 A137.out).mono ?_); (case side1 => exact cRx7 HO_14.out); (case side2 => exact (Kd.R_reads' HO_14.out).2.1); rintro e w' ⟨rfl, ⟨nd, rfl⟩⟩; refine ⟨_, rfl, ?_⟩))
                go_ret
                exact ⟨by first | rfl | (simp [errW_none, errW_some] <;> rfl) | (simp [*, errW_none, errW_some] <;> rfl), be4x7 HB.out GE212.out GE213.out GE259.out GE272.out⟩
               ·rw [if_neg c138] at H
                have c138b0 : decide (t323 < 0) = false := decide_eq_false c138
                clear c138
                by_cases c139 : t323 = t320
                ·rw [if_pos c139] at H
                 have c139b0 : (t323 == t320) = true := beq_iff_eq.mpr c139
                 have c139b1 : (t323 != t320) = false := bne_eq_false_iff_eq.mpr c139
                 clear c139
                 replace H := Option.bind_eq_some_iff.mp H
                 obtain ⟨⟨t324, t325, t326, t327, t330, t333⟩, A1400, H⟩ := H
                 (try dsimp only at H)
                 have A140 := Aside0.mk A1400
                 clear A1400
                 replace H := Option.bind_eq_some_iff.mp H
                 obtain ⟨⟨t336, t337, t338, t339, t342, t345⟩, A1410, H⟩ := H
                 (try dsimp only at H)
                 have A141 := Aside0.mk A1410
                 clear A1410
                 replace H := Option.bind_eq_some_iff.mp H
                 obtain ⟨⟨t348, t351, t354⟩, A1420, H⟩ := H
                 (try dsimp only at H)
                 have A142 := Aside0.mk A1420
                 clear A1420
                 have HC143 := Aside0.mk H
                 clear H
                 try go_wp2_with (first | ((with_reducible refine gate_callee (f := 38) rfl ?_); refine goesL_ (some 117) rfl rfl Try.func38 (by kernel_rfl) rfl #[.slice Ao134 t321.length co134, .int .i64 t322] rfl mpx7 ?_; (with_reducible refine (laws_heldIntS.calls kj130 _ _ t321 t322 t323 _ ?side1 ?side2 A137.out).mono ?_); (case side1 => exact cRx7 HO_14.out); (case side2 => exact (Kd.R_reads' HO_14.out).2.1); rintro e w' ⟨rfl, ⟨nd, rfl⟩⟩; refine ⟨_, rfl, ?_⟩))
                 (try (rw [drewN_self wc]; generalize hq_ : World.drewN wc _ = wc; have n0_ : Aside0 (Kd.R (Kd.int .i64) 3 wc w.heap.size (fun k_ => some k_ ≠ (.slice Ao134 t321.length co134 : Value).ownBlock ∧ some k_ ≠ (.slice Ao50 t309.length co50 : Value).ownBlock ∧ some k_ ≠ (.slice Ao51 t310.length co51 : Value).ownBlock ∧ some k_ ≠ (.slice Ao52 t311.length co52 : Value).ownBlock ∧ some k_ ≠ (.slice Ao60 t313.length co60 : Value).ownBlock ∧ some k_ ≠ (.slice Ao61 t314.length co61 : Value).ownBlock ∧ some k_ ≠ (.slice Ao62 t315.length co62 : Value).ownBlock ∧ some k_ ≠ (v241 : Value).ownBlock ∧ some k_ ≠ (v244 : Value).ownBlock) (.slice Ao132 t319.length co132) t319) := ⟨by rw [← hq_]; exact (by exact rRx7 (mox7 HO_13.out))⟩; have n1_ : Aside0 (Kd.R (Kd.int .i64) 3 wc w.heap.size (fun k_ => some k_ ≠ (.slice Ao132 t319.length co132 : Value).ownBlock ∧ some k_ ≠ (.slice Ao50 t309.length co50 : Value).ownBlock ∧ some k_ ≠ (.slice Ao51 t310.length co51 : Value).ownBlock ∧ some k_ ≠ (.slice Ao52 t311.length co52 : Value).ownBlock ∧ some k_ ≠ (.slice Ao60 t313.length co60 : Value).ownBlock ∧ some k_ ≠ (.slice Ao61 t314.length co61 : Value).ownBlock ∧ some k_ ≠ (.slice Ao62 t315.length co62 : Value).ownBlock ∧ some k_ ≠ (v241 : Value).ownBlock ∧ some k_ ≠ (v244 : Value).ownBlock) (.slice Ao134 t321.length co134) t321) := ⟨by rw [← hq_]; exact (by exact rRx7 (mox7 HO_14.out))⟩; have n2_ : Aside0 (Kd.R (Kd.int .i64) 3 wc w.heap.size (fun k_ => some k_ ≠ (.slice Ao132 t319.length co132 : Value).ownBlock ∧ some k_ ≠ (.slice Ao134 t321.length co134 : Value).ownBlock ∧ some k_ ≠ (.slice Ao51 t310.length co51 : Value).ownBlock ∧ some k_ ≠ (.slice Ao52 t311.length co52 : Value).ownBlock ∧ some k_ ≠ (.slice Ao60 t313.length co60 : Value).ownBlock ∧ some k_ ≠ (.slice Ao61 t314.length co61 : Value).ownBlock ∧ some k_ ≠ (.slice Ao62 t315.length co62 : Value).ownBlock ∧ some k_ ≠ (v241 : Value).ownBlock ∧ some k_ ≠ (v244 : Value).ownBlock) (.slice Ao50 t309.length co50) t309) := ⟨by rw [← hq_]; exact (by exact rRx7 (mox7 HO_260003.out))⟩; have n3_ : Aside0 (Kd.R (Kd.int .i64) 3 wc w.heap.size (fun k_ => some k_ ≠ (.slice Ao132 t319.length co132 : Value).ownBlock ∧ some k_ ≠ (.slice Ao134 t321.length co134 : Value).ownBlock ∧ some k_ ≠ (.slice Ao50 t309.length co50 : Value).ownBlock ∧ some k_ ≠ (.slice Ao52 t311.length co52 : Value).ownBlock ∧ some k_ ≠ (.slice Ao60 t313.length co60 : Value).ownBlock ∧ some k_ ≠ (.slice Ao61 t314.length co61 : Value).ownBlock ∧ some k_ ≠ (.slice Ao62 t315.length co62 : Value).ownBlock ∧ some k_ ≠ (v241 : Value).ownBlock ∧ some k_ ≠ (v244 : Value).ownBlock) (.slice Ao51 t310.length co51) t310) := ⟨by rw [← hq_]; exact (by exact rRx7 (mox7 HO_260004.out))⟩; have n4_ : Aside0 (Kd.R (Kd.int .i64) 3 wc w.heap.size (fun k_ => some k_ ≠ (.slice Ao132 t319.length co132 : Value).ownBlock ∧ some k_ ≠ (.slice Ao134 t321.length co134 : Value).ownBlock ∧ some k_ ≠ (.slice Ao50 t309.length co50 : Value).ownBlock ∧ some k_ ≠ (.slice Ao51 t310.length co51 : Value).ownBlock ∧ some k_ ≠ (.slice Ao60 t313.length co60 : Value).ownBlock ∧ some k_ ≠ (.slice Ao61 t314.length co61 : Value).ownBlock ∧ some k_ ≠ (.slice Ao62 t315.length co62 : Value).ownBlock ∧ some k_ ≠ (v241 : Value).ownBlock ∧ some k_ ≠ (v244 : Value).ownBlock) (.slice Ao52 t311.length co52) t311) := ⟨by rw [← hq_]; exact (by exact rRx7 (mox7 HO_260005.out))⟩; have n5_ : Aside0 (Kd.R (Kd.int .i64) 3 wc w.heap.size (fun k_ => some k_ ≠ (.slice Ao132 t319.length co132 : Value).ownBlock ∧ some k_ ≠ (.slice Ao134 t321.length co134 : Value).ownBlock ∧ some k_ ≠ (.slice Ao50 t309.length co50 : Value).ownBlock ∧ some k_ ≠ (.slice Ao51 t310.length co51 : Value).ownBlock ∧ some k_ ≠ (.slice Ao52 t311.length co52 : Value).ownBlock ∧ some k_ ≠ (.slice Ao61 t314.length co61 : Value).ownBlock ∧ some k_ ≠ (.slice Ao62 t315.length co62 : Value).ownBlock ∧ some k_ ≠ (v241 : Value).ownBlock ∧ some k_ ≠ (v244 : Value).ownBlock) (.slice Ao60 t313.length co60) t313) := ⟨by rw [← hq_]; exact (by exact rRx7 (mox7 HO_273003.out))⟩; have n6_ : Aside0 (Kd.R (Kd.int .i64) 3 wc w.heap.size (fun k_ => some k_ ≠ (.slice Ao132 t319.length co132 : Value).ownBlock ∧ some k_ ≠ (.slice Ao134 t321.length co134 : Value).ownBlock ∧ some k_ ≠ (.slice Ao50 t309.length co50 : Value).ownBlock ∧ some k_ ≠ (.slice Ao51 t310.length co51 : Value).ownBlock ∧ some k_ ≠ (.slice Ao52 t311.length co52 : Value).ownBlock ∧ some k_ ≠ (.slice Ao60 t313.length co60 : Value).ownBlock ∧ some k_ ≠ (.slice Ao62 t315.length co62 : Value).ownBlock ∧ some k_ ≠ (v241 : Value).ownBlock ∧ some k_ ≠ (v244 : Value).ownBlock) (.slice Ao61 t314.length co61) t314) := ⟨by rw [← hq_]; exact (by exact rRx7 (mox7 HO_273004.out))⟩; have n7_ : Aside0 (Kd.R (Kd.int .i64) 3 wc w.heap.size (fun k_ => some k_ ≠ (.slice Ao132 t319.length co132 : Value).ownBlock ∧ some k_ ≠ (.slice Ao134 t321.length co134 : Value).ownBlock ∧ some k_ ≠ (.slice Ao50 t309.length co50 : Value).ownBlock ∧ some k_ ≠ (.slice Ao51 t310.length co51 : Value).ownBlock ∧ some k_ ≠ (.slice Ao52 t311.length co52 : Value).ownBlock ∧ some k_ ≠ (.slice Ao60 t313.length co60 : Value).ownBlock ∧ some k_ ≠ (.slice Ao61 t314.length co61 : Value).ownBlock ∧ some k_ ≠ (v241 : Value).ownBlock ∧ some k_ ≠ (v244 : Value).ownBlock) (.slice Ao62 t315.length co62) t315) := ⟨by rw [← hq_]; exact (by exact rRx7 (mox7 HO_273005.out))⟩; have n8_ : Aside0 (Kd.R (Kd.int .i64) 3 wc w.heap.size (fun k_ => some k_ ≠ (.slice Ao132 t319.length co132 : Value).ownBlock ∧ some k_ ≠ (.slice Ao134 t321.length co134 : Value).ownBlock ∧ some k_ ≠ (.slice Ao50 t309.length co50 : Value).ownBlock ∧ some k_ ≠ (.slice Ao51 t310.length co51 : Value).ownBlock ∧ some k_ ≠ (.slice Ao52 t311.length co52 : Value).ownBlock ∧ some k_ ≠ (.slice Ao60 t313.length co60 : Value).ownBlock ∧ some k_ ≠ (.slice Ao61 t314.length co61 : Value).ownBlock ∧ some k_ ≠ (.slice Ao62 t315.length co62 : Value).ownBlock ∧ some k_ ≠ (v244 : Value).ownBlock) v241 t240) := ⟨by rw [← hq_]; exact (by exact rRx7 (mox7 HO_8.out))⟩; have n9_ : Aside0 (Kd.R (Kd.int .i64) 3 wc w.heap.size (fun k_ => some k_ ≠ (.slice Ao132 t319.length co132 : Value).ownBlock ∧ some k_ ≠ (.slice Ao134 t321.length co134 : Value).ownBlock ∧ some k_ ≠ (.slice Ao50 t309.length co50 : Value).ownBlock ∧ some k_ ≠ (.slice Ao51 t310.length co51 : Value).ownBlock ∧ some k_ ≠ (.slice Ao52 t311.length co52 : Value).ownBlock ∧ some k_ ≠ (.slice Ao60 t313.length co60 : Value).ownBlock ∧ some k_ ≠ (.slice Ao61 t314.length co61 : Value).ownBlock ∧ some k_ ≠ (.slice Ao62 t315.length co62 : Value).ownBlock ∧ some k_ ≠ (v241 : Value).ownBlock) v244 t243) := ⟨by rw [← hq_]; exact (by exact rRx7 (mox7 HO_9.out))⟩; have n10_ : Aside0 (wc.heap[gb212]? = some (.cells #[.int .i64 a0_0, .int .i64 a0_1, .int .i64 a0_2, .slice A0_3 l0_3.length c0_3, .slice A0_4 l0_4.length c0_4, .slice A0_5 l0_5.length c0_5] 38 (0, 0))) := ⟨by rw [← hq_]; exact (rBx7 BK212.out)⟩; have n11_ : Aside0 (wc.heap[gb213]? = some (.cells #[.int .i64 a1_0, .int .i64 a1_1, .int .i64 a1_2, .slice A1_3 l1_3.length c1_3, .slice A1_4 l1_4.length c1_4, .slice A1_5 l1_5.length c1_5] 38 (0, 0))) := ⟨by rw [← hq_]; exact (rBx7 BK213.out)⟩; have n12_ : Aside0 (wc.heap[gb259]? = some (.cells #[.int .i64 t247, .int .i64 t248, .int .i64 t249, .slice Ao50 t309.length co50, .slice Ao51 t310.length co51, .slice Ao52 t311.length co52] 44 (0, 0))) := ⟨by rw [← hq_]; exact (rBx7 BK259.out)⟩; have n13_ : Aside0 (wc.heap[gb272]? = some (.cells #[.int .i64 t260, .int .i64 t261, .int .i64 t262, .slice Ao60 t313.length co60, .slice Ao61 t314.length co61, .slice Ao62 t315.length co62] 44 (0, 0))) := ⟨by rw [← hq_]; exact (rBx7 BK272.out)⟩; have n14_ : Aside0 (Below w.heap.size w wc) := ⟨by rw [← hq_]; exact (be4x7 HB.out GE212.out GE213.out GE259.out GE272.out)⟩; clear HO_13 HO_14 HO_260003 HO_260004 HO_260005 HO_273003 HO_273004 HO_273005 HO_8 HO_9 BK212 BK213 BK259 BK272 HB hq_; have HO_13 := n0_; have HO_14 := n1_; have HO_260003 := n2_; have HO_260004 := n3_; have HO_260005 := n4_; have HO_273003 := n5_; have HO_273004 := n6_; have HO_273005 := n7_; have HO_8 := n8_; have HO_9 := n9_; have BK212 := n10_; have BK213 := n11_; have BK259 := n12_; have BK272 := n13_; have HB := n14_; clear n0_ n1_ n2_ n3_ n4_ n5_ n6_ n7_ n8_ n9_ n10_ n11_ n12_ n13_ n14_))
                 have n0_ := Aside0.mk (Kd.R_drew HO_8.out)
                 have n1_ := Aside0.mk (Kd.R_drew HO_9.out)
                 have n2_ := Aside0.mk (Kd.R_drew HO_13.out)
                 have n3_ := Aside0.mk (Kd.R_drew HO_14.out)
                 have n4_ := Aside0.mk (Kd.R_drew HO_260003.out)
                 have n5_ := Aside0.mk (Kd.R_drew HO_260004.out)
                 have n6_ := Aside0.mk (Kd.R_drew HO_260005.out)
                 have n7_ := Aside0.mk (Kd.R_drew HO_273003.out)
                 have n8_ := Aside0.mk (Kd.R_drew HO_273004.out)
                 have n9_ := Aside0.mk (Kd.R_drew HO_273005.out)
                 have n10_ := Aside0.mk (blk_drew BK212.out)
                 have n11_ := Aside0.mk (blk_drew BK213.out)
                 have n12_ := Aside0.mk (blk_drew BK259.out)
                 have n13_ := Aside0.mk (blk_drew BK272.out)
                 have n14_ := Aside0.mk (below_drew1 HB.out)
                 clear HO_8
                 clear HO_9
                 clear HO_13
                 clear HO_14
                 clear HO_260003
                 clear HO_260004
                 clear HO_260005
                 clear HO_273003
                 clear HO_273004
                 clear HO_273005
                 clear BK212
                 clear BK213
                 clear BK259
                 clear BK272
                 clear HB
                 have HO_8 := n0_
                 have HO_9 := n1_
                 have HO_13 := n2_
                 have HO_14 := n3_
                 have HO_260003 := n4_
                 have HO_260004 := n5_
                 have HO_260005 := n6_
                 have HO_273003 := n7_
                 have HO_273004 := n8_
                 have HO_273005 := n9_
                 have BK212 := n10_
                 have BK213 := n11_
                 have BK259 := n12_
                 have BK272 := n13_
                 have HB := n14_
                 clear n0_ n1_ n2_ n3_ n4_ n5_ n6_ n7_ n8_ n9_ n10_ n11_ n12_ n13_ n14_
                 refine start_ (n := 13) (S := fun w' => w'.cell? ⟨gb212, 0, none⟩ = some (.int .i64 a0_0) ∧ w'.cell? ⟨gb212, 1, none⟩ = some (.int .i64 a0_1) ∧ w'.cell? ⟨gb212, 2, none⟩ = some (.int .i64 a0_2) ∧ w'.cell? ⟨gb212, 3, none⟩ = some (.slice A0_3 l0_3.length c0_3) ∧ w'.cell? ⟨gb212, 4, none⟩ = some (.slice A0_4 l0_4.length c0_4) ∧ w'.cell? ⟨gb212, 5, none⟩ = some (.slice A0_5 l0_5.length c0_5) ∧ w'.cell? ⟨gb213, 0, none⟩ = some (.int .i64 a1_0) ∧ w'.cell? ⟨gb213, 1, none⟩ = some (.int .i64 a1_1) ∧ w'.cell? ⟨gb213, 2, none⟩ = some (.int .i64 a1_2) ∧ w'.cell? ⟨gb213, 3, none⟩ = some (.slice A1_3 l1_3.length c1_3) ∧ w'.cell? ⟨gb213, 4, none⟩ = some (.slice A1_4 l1_4.length c1_4) ∧ w'.cell? ⟨gb213, 5, none⟩ = some (.slice A1_5 l1_5.length c1_5)) (ds := []) #[false, false, false, false, false, false, false, false, false, false, false, false, false] (by kernel_rfl) rfl rfl (ca6x7 BK212.out (cc6x7 BK213.out)) (fun hHeld => ?_); refine with_tabW laws_FnExactKindChanges.tab35 laws_FnExactKindChanges.bits35 (fun HT_ HW_ => ?_)
                 generalize wc.drew = w144 at HO_8 HO_9 HO_13 HO_14 HO_260003 HO_260004 HO_260005 HO_273003 HO_273004 HO_273005 BK212 BK213 BK259 BK272 HB hHeld ⊢
                 refine pure_ (i := 4) (N := some 128) (v := ?_) (a' := ?_) #[false, false, false, false, true, false, false, false, false, false, false, false, false] rfl rfl (any_of HT_.out (by kernel_rfl)) (fun _ _ _ h => h) (Or.inl ⟨by rfl, ?_⟩) ?_ ?_
                 rotate_left
                 ·intro w'
                  go_simp
                  with_reducible rfl
                 rotate_left
                 ·simp only [Act.put, List.setIfInBounds_toArray, List.set_cons_zero, List.set_cons_succ, i64_w, i32_w]
                  rfl
                 refine take_ (i := 0) (N := some 124) (v := ?_) (a' := ?_) #[true, false, false, false, true, false, false, false, false, false, false, false, false] rfl rfl (take_ofW HT_.out HW_.out (by kernel_rfl)) (fun _ _ _ h => h) (Or.inl ⟨by rfl, ?_⟩) hHeld ?_ ?_
                 rotate_left
                 ·rintro w' ⟨s0, s1, s2, s3, s4, s5, s6, s7, s8, s9, s10, s11⟩
                  go_simp
                  with_reducible rfl
                 rotate_left
                 ·simp only [Act.put, List.setIfInBounds_toArray, List.set_cons_zero, List.set_cons_succ, i64_w, i32_w]
                  rfl
                 refine take_ (i := 2) (N := some 126) (v := ?_) (a' := ?_) #[true, false, true, false, true, false, false, false, false, false, false, false, false] rfl rfl (take_ofW HT_.out HW_.out (by kernel_rfl)) (fun _ _ _ h => h) (Or.inl ⟨by rfl, ?_⟩) hHeld ?_ ?_
                 rotate_left
                 ·rintro w' ⟨s0, s1, s2, s3, s4, s5, s6, s7, s8, s9, s10, s11⟩
                  go_simp
                  with_reducible rfl
                 rotate_left
                 ·simp only [Act.put, List.setIfInBounds_toArray, List.set_cons_zero, List.set_cons_succ, i64_w, i32_w]
                  rfl
                 refine one_ (i := 1) (N := some 125) #[true, true, true, false, true, false, false, false, false, false, false, false, false] rfl rfl (one_of HT_.out (by kernel_rfl)) (by decide) (fun K hK => ?_)
                 refine goes_ Try.func24 (by kernel_rfl) rfl #[.agg #[.int .i64 a0_0, .int .i64 a0_1, .int .i64 a0_2, .slice A0_3 l0_3.length c0_3, .slice A0_4 l0_4.length c0_4, .slice A0_5 l0_5.length c0_5]] (by rfl) rfl rfl mpx7 ?_
                 with_reducible refine (laws_toModel.calls kj130 a0_0 a0_1 a0_2 _ _ l0_3 _ _ l0_4 _ _ l0_5 t324 t325 t326 t327 t330 t333 _ ?side1 ?side2 ?side3 ?side4 ?side5 ?side6 A140.out).mono ?_
                 (case side1 => exact rCx7 (Kd.C_below HR0_3.out HB.out))
                 (case side2 => exact HC0_3.out)
                 (case side3 => exact rCx7 (Kd.C_below HR0_4.out HB.out))
                 (case side4 => exact HC0_4.out)
                 (case side5 => exact rCx7 (Kd.C_below HR0_5.out HB.out))
                 (case side6 => exact HC0_5.out)
                 rintro e w145 ⟨v328, v331, v334, rfl, ho0, ho1, ho2, hb⟩
                 refine ⟨_, rfl, ?_⟩
                 have n0_ := Aside0.mk (kp3x7 (rRx7 HO_8.out) hb ho0 ho1 ho2)
                 have n1_ := Aside0.mk (kp3x7 (rRx7 HO_9.out) hb ho0 ho1 ho2)
                 have n2_ := Aside0.mk (kp3x7 (rRx7 HO_13.out) hb ho0 ho1 ho2)
                 have n3_ := Aside0.mk (kp3x7 (rRx7 HO_14.out) hb ho0 ho1 ho2)
                 have n4_ := Aside0.mk (kp3x7 (rRx7 HO_260003.out) hb ho0 ho1 ho2)
                 have n5_ := Aside0.mk (kp3x7 (rRx7 HO_260004.out) hb ho0 ho1 ho2)
                 have n6_ := Aside0.mk (kp3x7 (rRx7 HO_260005.out) hb ho0 ho1 ho2)
                 have n7_ := Aside0.mk (kp3x7 (rRx7 HO_273003.out) hb ho0 ho1 ho2)
                 have n8_ := Aside0.mk (kp3x7 (rRx7 HO_273004.out) hb ho0 ho1 ho2)
                 have n9_ := Aside0.mk (kp3x7 (rRx7 HO_273005.out) hb ho0 ho1 ho2)
                 have n10_ := Aside0.mk (Kd.R_lower (nwx7 (nwx7 (nwx7 (nwx7 (nwx7 (nwx7 (nwx7 (nwx7 (nwx7 (nwx7 ho0 (rRx7 HO_8.out)) (rRx7 HO_9.out)) (rRx7 HO_13.out)) (rRx7 HO_14.out)) (rRx7 HO_260003.out)) (rRx7 HO_260004.out)) (rRx7 HO_260005.out)) (rRx7 HO_273003.out)) (rRx7 HO_273004.out)) (rRx7 HO_273005.out)) (below_size (be4x7 HB.out GE212.out GE213.out GE259.out GE272.out)))
                 have n11_ := Aside0.mk (Kd.R_lower (nwx7 (nwx7 (nwx7 (nwx7 (nwx7 (nwx7 (nwx7 (nwx7 (nwx7 (nwx7 ho1 (rRx7 HO_8.out)) (rRx7 HO_9.out)) (rRx7 HO_13.out)) (rRx7 HO_14.out)) (rRx7 HO_260003.out)) (rRx7 HO_260004.out)) (rRx7 HO_260005.out)) (rRx7 HO_273003.out)) (rRx7 HO_273004.out)) (rRx7 HO_273005.out)) (below_size (be4x7 HB.out GE212.out GE213.out GE259.out GE272.out)))
                 have n12_ := Aside0.mk (Kd.R_lower (nwx7 (nwx7 (nwx7 (nwx7 (nwx7 (nwx7 (nwx7 (nwx7 (nwx7 (nwx7 ho2 (rRx7 HO_8.out)) (rRx7 HO_9.out)) (rRx7 HO_13.out)) (rRx7 HO_14.out)) (rRx7 HO_260003.out)) (rRx7 HO_260004.out)) (rRx7 HO_260005.out)) (rRx7 HO_273003.out)) (rRx7 HO_273004.out)) (rRx7 HO_273005.out)) (below_size (be4x7 HB.out GE212.out GE213.out GE259.out GE272.out)))
                 have n13_ := Aside0.mk (blk_below (g := gb212) (o := .cells #[.int .i64 a0_0, .int .i64 a0_1, .int .i64 a0_2, .slice A0_3 l0_3.length c0_3, .slice A0_4 l0_4.length c0_4, .slice A0_5 l0_5.length c0_5] 38 (0, 0)) (rBx7 BK212.out) hb)
                 have n14_ := Aside0.mk (blk_below (g := gb213) (o := .cells #[.int .i64 a1_0, .int .i64 a1_1, .int .i64 a1_2, .slice A1_3 l1_3.length c1_3, .slice A1_4 l1_4.length c1_4, .slice A1_5 l1_5.length c1_5] 38 (0, 0)) (rBx7 BK213.out) hb)
                 have n15_ := Aside0.mk (blk_below (g := gb259) (o := .cells #[.int .i64 t247, .int .i64 t248, .int .i64 t249, .slice Ao50 t309.length co50, .slice Ao51 t310.length co51, .slice Ao52 t311.length co52] 44 (0, 0)) (rBx7 BK259.out) hb)
                 have n16_ := Aside0.mk (blk_below (g := gb272) (o := .cells #[.int .i64 t260, .int .i64 t261, .int .i64 t262, .slice Ao60 t313.length co60, .slice Ao61 t314.length co61, .slice Ao62 t315.length co62] 44 (0, 0)) (rBx7 BK272.out) hb)
                 have n17_ := Aside0.mk (below_step (be4x7 HB.out GE212.out GE213.out GE259.out GE272.out) hb)
                 clear HO_8
                 clear HO_9
                 clear HO_13
                 clear HO_14
                 clear HO_260003
                 clear HO_260004
                 clear HO_260005
                 clear HO_273003
                 clear HO_273004
                 clear HO_273005
                 clear BK212
                 clear BK213
                 clear BK259
                 clear BK272
                 clear HB
                 have HO_8 := n0_
                 have HO_9 := n1_
                 have HO_13 := n2_
                 have HO_14 := n3_
                 have HO_260003 := n4_
                 have HO_260004 := n5_
                 have HO_260005 := n6_
                 have HO_273003 := n7_
                 have HO_273004 := n8_
                 have HO_273005 := n9_
                 have HO329 := n10_
                 have HO332 := n11_
                 have HO335 := n12_
                 have BK212 := n13_
                 have BK213 := n14_
                 have BK259 := n15_
                 have BK272 := n16_
                 have HB := n17_
                 clear n0_ n1_ n2_ n3_ n4_ n5_ n6_ n7_ n8_ n9_ n10_ n11_ n12_ n13_ n14_ n15_ n16_ n17_
                 (try clear hb)
                 (try clear hb2)
                 (try clear hk)
                 (try clear hi)
                 (try clear ho0)
                 (try clear ho1)
                 (try clear ho2)
                 refine hK.out _ _ (ca6x7 BK212.out (cc6x7 BK213.out)) (fun hHeld => ?_)
                 clear hK K
                 refine norm_ (a' := ?_) ?_ ?_
                 rotate_left
                 ·show Act.put _ (some 125) _ = _
                  simp only [Act.put, List.setIfInBounds_toArray, List.set_cons_zero, List.set_cons_succ, i64_w, i32_w]
                  rfl
                 refine one_ (i := 3) (N := some 127) #[true, true, true, true, true, false, false, false, false, false, false, false, false] rfl rfl (one_of HT_.out (by kernel_rfl)) (by decide) (fun K hK => ?_)
                 refine goes_ Try.func24 (by kernel_rfl) rfl #[.agg #[.int .i64 a1_0, .int .i64 a1_1, .int .i64 a1_2, .slice A1_3 l1_3.length c1_3, .slice A1_4 l1_4.length c1_4, .slice A1_5 l1_5.length c1_5]] (by rfl) rfl rfl mpx7 ?_
                 with_reducible refine (laws_toModel.calls kj130 a1_0 a1_1 a1_2 _ _ l1_3 _ _ l1_4 _ _ l1_5 t336 t337 t338 t339 t342 t345 _ ?side1 ?side2 ?side3 ?side4 ?side5 ?side6 A141.out).mono ?_
                 (case side1 => exact rCx7 (Kd.C_below HR1_3.out HB.out))
                 (case side2 => exact HC1_3.out)
                 (case side3 => exact rCx7 (Kd.C_below HR1_4.out HB.out))
                 (case side4 => exact HC1_4.out)
                 (case side5 => exact rCx7 (Kd.C_below HR1_5.out HB.out))
                 (case side6 => exact HC1_5.out)
                 rintro e w146 ⟨v340, v343, v346, rfl, ho0, ho1, ho2, hb⟩
                 refine ⟨_, rfl, ?_⟩
                 have n0_ := Aside0.mk (kp3x7 (rRx7 HO_8.out) hb ho0 ho1 ho2)
                 have n1_ := Aside0.mk (kp3x7 (rRx7 HO_9.out) hb ho0 ho1 ho2)
                 have n2_ := Aside0.mk (kp3x7 (rRx7 HO_13.out) hb ho0 ho1 ho2)
                 have n3_ := Aside0.mk (kp3x7 (rRx7 HO_14.out) hb ho0 ho1 ho2)
                 have n4_ := Aside0.mk (kp3x7 (rRx7 HO_260003.out) hb ho0 ho1 ho2)
                 have n5_ := Aside0.mk (kp3x7 (rRx7 HO_260004.out) hb ho0 ho1 ho2)
                 have n6_ := Aside0.mk (kp3x7 (rRx7 HO_260005.out) hb ho0 ho1 ho2)
                 have n7_ := Aside0.mk (kp3x7 (rRx7 HO_273003.out) hb ho0 ho1 ho2)
                 have n8_ := Aside0.mk (kp3x7 (rRx7 HO_273004.out) hb ho0 ho1 ho2)
                 have n9_ := Aside0.mk (kp3x7 (rRx7 HO_273005.out) hb ho0 ho1 ho2)
                 have n10_ := Aside0.mk (kp3x7 (rRx7 HO329.out) hb ho0 ho1 ho2)
                 have n11_ := Aside0.mk (kp3x7 (rRx7 HO332.out) hb ho0 ho1 ho2)
                 have n12_ := Aside0.mk (kp3x7 (rRx7 HO335.out) hb ho0 ho1 ho2)
                 have n13_ := Aside0.mk (Kd.R_lower (nwx7 (nwx7 (nwx7 (nwx7 (nwx7 (nwx7 (nwx7 (nwx7 (nwx7 (nwx7 (nwx7 (nwx7 (nwx7 ho0 (rRx7 HO_8.out)) (rRx7 HO_9.out)) (rRx7 HO_13.out)) (rRx7 HO_14.out)) (rRx7 HO_260003.out)) (rRx7 HO_260004.out)) (rRx7 HO_260005.out)) (rRx7 HO_273003.out)) (rRx7 HO_273004.out)) (rRx7 HO_273005.out)) (rRx7 HO329.out)) (rRx7 HO332.out)) (rRx7 HO335.out)) (below_size (be4x7 HB.out GE212.out GE213.out GE259.out GE272.out)))
                 have n14_ := Aside0.mk (Kd.R_lower (nwx7 (nwx7 (nwx7 (nwx7 (nwx7 (nwx7 (nwx7 (nwx7 (nwx7 (nwx7 (nwx7 (nwx7 (nwx7 ho1 (rRx7 HO_8.out)) (rRx7 HO_9.out)) (rRx7 HO_13.out)) (rRx7 HO_14.out)) (rRx7 HO_260003.out)) (rRx7 HO_260004.out)) (rRx7 HO_260005.out)) (rRx7 HO_273003.out)) (rRx7 HO_273004.out)) (rRx7 HO_273005.out)) (rRx7 HO329.out)) (rRx7 HO332.out)) (rRx7 HO335.out)) (below_size (be4x7 HB.out GE212.out GE213.out GE259.out GE272.out)))
                 have n15_ := Aside0.mk (Kd.R_lower (nwx7 (nwx7 (nwx7 (nwx7 (nwx7 (nwx7 (nwx7 (nwx7 (nwx7 (nwx7 (nwx7 (nwx7 (nwx7 ho2 (rRx7 HO_8.out)) (rRx7 HO_9.out)) (rRx7 HO_13.out)) (rRx7 HO_14.out)) (rRx7 HO_260003.out)) (rRx7 HO_260004.out)) (rRx7 HO_260005.out)) (rRx7 HO_273003.out)) (rRx7 HO_273004.out)) (rRx7 HO_273005.out)) (rRx7 HO329.out)) (rRx7 HO332.out)) (rRx7 HO335.out)) (below_size (be4x7 HB.out GE212.out GE213.out GE259.out GE272.out)))
                 have n16_ := Aside0.mk (blk_below (g := gb212) (o := .cells #[.int .i64 a0_0, .int .i64 a0_1, .int .i64 a0_2, .slice A0_3 l0_3.length c0_3, .slice A0_4 l0_4.length c0_4, .slice A0_5 l0_5.length c0_5] 38 (0, 0)) (rBx7 BK212.out) hb)
                 have n17_ := Aside0.mk (blk_below (g := gb213) (o := .cells #[.int .i64 a1_0, .int .i64 a1_1, .int .i64 a1_2, .slice A1_3 l1_3.length c1_3, .slice A1_4 l1_4.length c1_4, .slice A1_5 l1_5.length c1_5] 38 (0, 0)) (rBx7 BK213.out) hb)
                 have n18_ := Aside0.mk (blk_below (g := gb259) (o := .cells #[.int .i64 t247, .int .i64 t248, .int .i64 t249, .slice Ao50 t309.length co50, .slice Ao51 t310.length co51, .slice Ao52 t311.length co52] 44 (0, 0)) (rBx7 BK259.out) hb)
                 have n19_ := Aside0.mk (blk_below (g := gb272) (o := .cells #[.int .i64 t260, .int .i64 t261, .int .i64 t262, .slice Ao60 t313.length co60, .slice Ao61 t314.length co61, .slice Ao62 t315.length co62] 44 (0, 0)) (rBx7 BK272.out) hb)
                 have n20_ := Aside0.mk (below_step (be4x7 HB.out GE212.out GE213.out GE259.out GE272.out) hb)
                 clear HO_8
                 clear HO_9
                 clear HO_13
                 clear HO_14
                 clear HO_260003
                 clear HO_260004
                 clear HO_260005
                 clear HO_273003
                 clear HO_273004
                 clear HO_273005
                 clear HO329
                 clear HO332
                 clear HO335
                 clear BK212
                 clear BK213
                 clear BK259
                 clear BK272
                 clear HB
                 have HO_8 := n0_
                 have HO_9 := n1_
                 have HO_13 := n2_
                 have HO_14 := n3_
                 have HO_260003 := n4_
                 have HO_260004 := n5_
                 have HO_260005 := n6_
                 have HO_273003 := n7_
                 have HO_273004 := n8_
                 have HO_273005 := n9_
                 have HO329 := n10_
                 have HO332 := n11_
                 have HO335 := n12_
                 have HO341 := n13_
                 have HO344 := n14_
                 have HO347 := n15_
                 have BK212 := n16_
                 have BK213 := n17_
                 have BK259 := n18_
                 have BK272 := n19_
                 have HB := n20_
                 clear n0_ n1_ n2_ n3_ n4_ n5_ n6_ n7_ n8_ n9_ n10_ n11_ n12_ n13_ n14_ n15_ n16_ n17_ n18_ n19_ n20_
                 (try clear hb)
                 (try clear hb2)
                 (try clear hk)
                 (try clear hi)
                 (try clear ho0)
                 (try clear ho1)
                 (try clear ho2)
                 obtain ⟨Ao147, co147, eo147⟩ := Kd.R_slice HO329.out
                 (first | subst eo147 | (injection eo147 with f1_ f2_ f3_; have f4_ := f1_.symm; have f5_ := f3_.symm; clear f1_ f2_ f3_; subst f4_; subst f5_))
                 obtain ⟨Ao148, co148, eo148⟩ := Kd.R_slice HO332.out
                 (first | subst eo148 | (injection eo148 with f1_ f2_ f3_; have f4_ := f1_.symm; have f5_ := f3_.symm; clear f1_ f2_ f3_; subst f4_; subst f5_))
                 obtain ⟨Ao149, co149, eo149⟩ := Kd.R_slice HO335.out
                 (first | subst eo149 | (injection eo149 with f1_ f2_ f3_; have f4_ := f1_.symm; have f5_ := f3_.symm; clear f1_ f2_ f3_; subst f4_; subst f5_))
                 obtain ⟨Ao150, co150, eo150⟩ := Kd.R_slice HO341.out
                 (first | subst eo150 | (injection eo150 with f1_ f2_ f3_; have f4_ := f1_.symm; have f5_ := f3_.symm; clear f1_ f2_ f3_; subst f4_; subst f5_))
                 obtain ⟨Ao151, co151, eo151⟩ := Kd.R_slice HO344.out
                 (first | subst eo151 | (injection eo151 with f1_ f2_ f3_; have f4_ := f1_.symm; have f5_ := f3_.symm; clear f1_ f2_ f3_; subst f4_; subst f5_))
                 obtain ⟨Ao152, co152, eo152⟩ := Kd.R_slice HO347.out
                 (first | subst eo152 | (injection eo152 with f1_ f2_ f3_; have f4_ := f1_.symm; have f5_ := f3_.symm; clear f1_ f2_ f3_; subst f4_; subst f5_))
                 refine hK.out _ _ (ca6x7 BK212.out (cc6x7 BK213.out)) (fun hHeld => ?_)
                 clear hK K
                 refine norm_ (a' := ?_) ?_ ?_
                 rotate_left
                 ·show Act.put _ (some 127) _ = _
                  simp only [Act.put, List.setIfInBounds_toArray, List.set_cons_zero, List.set_cons_succ, i64_w, i32_w]
                  rfl
                 refine one_ (i := 5) (N := some 129) #[true, true, true, true, true, true, false, false, false, false, false, false, false] rfl rfl (one_of HT_.out (by kernel_rfl)) (by decide) (fun K hK => ?_)
                 refine goes_ Try.func58 (by kernel_rfl) rfl #[.agg #[.int .i64 t324, .int .i64 t325, .int .i64 t326, .slice Ao147 t327.length co147, .slice Ao148 t330.length co148, .slice Ao149 t333.length co149], .agg #[.int .i64 t336, .int .i64 t337, .int .i64 t338, .slice Ao150 t339.length co150, .slice Ao151 t342.length co151, .slice Ao152 t345.length co152], .int .i64 a2] (by rfl) rfl rfl mpx7 ?_
                 with_reducible refine (impl_KindChanges.calls kj130 t324 t325 t326 _ _ t327 _ _ t330 _ _ t333 t336 t337 t338 _ _ t339 _ _ t342 _ _ t345 a2 t348 t351 t354 _ ?side1 ?side2 ?side3 ?side4 ?side5 ?side6 ?side7 ?side8 ?side9 ?side10 ?side11 ?side12 A142.out).mono ?_
                 (case side1 => exact cRx7 HO329.out)
                 (case side2 => exact (Kd.R_reads' HO329.out).2.1)
                 (case side3 => exact cRx7 HO332.out)
                 (case side4 => exact (Kd.R_reads' HO332.out).2.1)
                 (case side5 => exact cRx7 HO335.out)
                 (case side6 => exact (Kd.R_reads' HO335.out).2.1)
                 (case side7 => exact cRx7 HO341.out)
                 (case side8 => exact (Kd.R_reads' HO341.out).2.1)
                 (case side9 => exact cRx7 HO344.out)
                 (case side10 => exact (Kd.R_reads' HO344.out).2.1)
                 (case side11 => exact cRx7 HO347.out)
                 (case side12 => exact (Kd.R_reads' HO347.out).2.1)
                 rintro e w153 ⟨v349, v352, rfl, ho0, ho1, hb⟩
                 refine ⟨_, rfl, ?_⟩
                 have n0_ := Aside0.mk (kp2x7 (rRx7 HO_8.out) hb ho0 ho1)
                 have n1_ := Aside0.mk (kp2x7 (rRx7 HO_9.out) hb ho0 ho1)
                 have n2_ := Aside0.mk (kp2x7 (rRx7 HO_13.out) hb ho0 ho1)
                 have n3_ := Aside0.mk (kp2x7 (rRx7 HO_14.out) hb ho0 ho1)
                 have n4_ := Aside0.mk (kp2x7 (rRx7 HO_260003.out) hb ho0 ho1)
                 have n5_ := Aside0.mk (kp2x7 (rRx7 HO_260004.out) hb ho0 ho1)
                 have n6_ := Aside0.mk (kp2x7 (rRx7 HO_260005.out) hb ho0 ho1)
                 have n7_ := Aside0.mk (kp2x7 (rRx7 HO_273003.out) hb ho0 ho1)
                 have n8_ := Aside0.mk (kp2x7 (rRx7 HO_273004.out) hb ho0 ho1)
                 have n9_ := Aside0.mk (kp2x7 (rRx7 HO_273005.out) hb ho0 ho1)
                 have n10_ := Aside0.mk (kp2x7 (rRx7 HO329.out) hb ho0 ho1)
                 have n11_ := Aside0.mk (kp2x7 (rRx7 HO332.out) hb ho0 ho1)
                 have n12_ := Aside0.mk (kp2x7 (rRx7 HO335.out) hb ho0 ho1)
                 have n13_ := Aside0.mk (kp2x7 (rRx7 HO341.out) hb ho0 ho1)
                 have n14_ := Aside0.mk (kp2x7 (rRx7 HO344.out) hb ho0 ho1)
                 have n15_ := Aside0.mk (kp2x7 (rRx7 HO347.out) hb ho0 ho1)
                 have n16_ := Aside0.mk (Kd.R_lower (nwx7 (nwx7 (nwx7 (nwx7 (nwx7 (nwx7 (nwx7 (nwx7 (nwx7 (nwx7 (nwx7 (nwx7 (nwx7 (nwx7 (nwx7 (nwx7 ho0 (rRx7 HO_8.out)) (rRx7 HO_9.out)) (rRx7 HO_13.out)) (rRx7 HO_14.out)) (rRx7 HO_260003.out)) (rRx7 HO_260004.out)) (rRx7 HO_260005.out)) (rRx7 HO_273003.out)) (rRx7 HO_273004.out)) (rRx7 HO_273005.out)) (rRx7 HO329.out)) (rRx7 HO332.out)) (rRx7 HO335.out)) (rRx7 HO341.out)) (rRx7 HO344.out)) (rRx7 HO347.out)) (below_size (be4x7 HB.out GE212.out GE213.out GE259.out GE272.out)))
                 have n17_ := Aside0.mk (Kd.R_lower (nwx7 (nwx7 (nwx7 (nwx7 (nwx7 (nwx7 (nwx7 (nwx7 (nwx7 (nwx7 (nwx7 (nwx7 (nwx7 (nwx7 (nwx7 (nwx7 ho1 (rRx7 HO_8.out)) (rRx7 HO_9.out)) (rRx7 HO_13.out)) (rRx7 HO_14.out)) (rRx7 HO_260003.out)) (rRx7 HO_260004.out)) (rRx7 HO_260005.out)) (rRx7 HO_273003.out)) (rRx7 HO_273004.out)) (rRx7 HO_273005.out)) (rRx7 HO329.out)) (rRx7 HO332.out)) (rRx7 HO335.out)) (rRx7 HO341.out)) (rRx7 HO344.out)) (rRx7 HO347.out)) (below_size (be4x7 HB.out GE212.out GE213.out GE259.out GE272.out)))
                 have n18_ := Aside0.mk (blk_below (g := gb212) (o := .cells #[.int .i64 a0_0, .int .i64 a0_1, .int .i64 a0_2, .slice A0_3 l0_3.length c0_3, .slice A0_4 l0_4.length c0_4, .slice A0_5 l0_5.length c0_5] 38 (0, 0)) (rBx7 BK212.out) hb)
                 have n19_ := Aside0.mk (blk_below (g := gb213) (o := .cells #[.int .i64 a1_0, .int .i64 a1_1, .int .i64 a1_2, .slice A1_3 l1_3.length c1_3, .slice A1_4 l1_4.length c1_4, .slice A1_5 l1_5.length c1_5] 38 (0, 0)) (rBx7 BK213.out) hb)
                 have n20_ := Aside0.mk (blk_below (g := gb259) (o := .cells #[.int .i64 t247, .int .i64 t248, .int .i64 t249, .slice Ao50 t309.length co50, .slice Ao51 t310.length co51, .slice Ao52 t311.length co52] 44 (0, 0)) (rBx7 BK259.out) hb)
                 have n21_ := Aside0.mk (blk_below (g := gb272) (o := .cells #[.int .i64 t260, .int .i64 t261, .int .i64 t262, .slice Ao60 t313.length co60, .slice Ao61 t314.length co61, .slice Ao62 t315.length co62] 44 (0, 0)) (rBx7 BK272.out) hb)
                 have n22_ := Aside0.mk (below_step (be4x7 HB.out GE212.out GE213.out GE259.out GE272.out) hb)
                 clear HO_8
                 clear HO_9
                 clear HO_13
                 clear HO_14
                 clear HO_260003
                 clear HO_260004
                 clear HO_260005
                 clear HO_273003
                 clear HO_273004
                 clear HO_273005
                 clear HO329
                 clear HO332
                 clear HO335
                 clear HO341
                 clear HO344
                 clear HO347
                 clear BK212
                 clear BK213
                 clear BK259
                 clear BK272
                 clear HB
                 have HO_8 := n0_
                 have HO_9 := n1_
                 have HO_13 := n2_
                 have HO_14 := n3_
                 have HO_260003 := n4_
                 have HO_260004 := n5_
                 have HO_260005 := n6_
                 have HO_273003 := n7_
                 have HO_273004 := n8_
                 have HO_273005 := n9_
                 have HO329 := n10_
                 have HO332 := n11_
                 have HO335 := n12_
                 have HO341 := n13_
                 have HO344 := n14_
                 have HO347 := n15_
                 have HO350 := n16_
                 have HO353 := n17_
                 have BK212 := n18_
                 have BK213 := n19_
                 have BK259 := n20_
                 have BK272 := n21_
                 have HB := n22_
                 clear n0_ n1_ n2_ n3_ n4_ n5_ n6_ n7_ n8_ n9_ n10_ n11_ n12_ n13_ n14_ n15_ n16_ n17_ n18_ n19_ n20_ n21_ n22_
                 (try clear hb)
                 (try clear hb2)
                 (try clear hk)
                 (try clear hi)
                 (try clear ho0)
                 (try clear ho1)
                 refine hK.out _ _ (ca6x7 BK212.out (cc6x7 BK213.out)) (fun hHeld => ?_)
                 clear hK K
                 refine norm_ (a' := ?_) ?_ ?_
                 rotate_left
                 ·show Act.put _ (some 129) _ = _
                  simp only [Act.put, List.setIfInBounds_toArray, List.set_cons_zero, List.set_cons_succ, i64_w, i32_w]
                  rfl
                 refine pure_ (i := 6) (N := some 123) (v := ?_) (a' := ?_) #[true, true, true, true, true, true, true, false, false, false, false, false, false] rfl rfl (any_of HT_.out (by kernel_rfl)) (fun _ _ _ h => h) (Or.inl ⟨by rfl, ?_⟩) ?_ ?_
                 rotate_left
                 ·intro w'
                  go_simp
                  with_reducible rfl
                 rotate_left
                 ·simp only [Act.put, List.setIfInBounds_toArray, List.set_cons_zero, List.set_cons_succ, i64_w, i32_w]
                  rfl
                 refine pure_ (i := 7) (N := some 130) (v := ?_) (a' := ?_) #[true, true, true, true, true, true, true, true, false, false, false, false, false] rfl rfl (any_of HT_.out (by kernel_rfl)) (fun _ _ _ h => h) (Or.inl ⟨by rfl, ?_⟩) ?_ ?_
                 rotate_left
                 ·intro w'
                  go_simp
                  with_reducible rfl
                 rotate_left
                 ·simp only [Act.put, List.setIfInBounds_toArray, List.set_cons_zero, List.set_cons_succ, i64_w, i32_w]
                  rfl
                 refine pure_ (i := 8) (N := some 131) (v := ?_) (a' := ?_) #[true, true, true, true, true, true, true, true, true, false, false, false, false] rfl rfl (any_of HT_.out (by kernel_rfl)) (fun _ _ _ h => h) (Or.inl ⟨by rfl, ?_⟩) ?_ ?_
                 rotate_left
                 ·intro w'
                  go_simp
                  with_reducible rfl
                 rotate_left
                 ·simp only [Act.put, List.setIfInBounds_toArray, List.set_cons_zero, List.set_cons_succ, i64_w, i32_w]
                  rfl
                 refine pure_ (i := 9) (N := some 132) (v := ?_) (a' := ?_) #[true, true, true, true, true, true, true, true, true, true, false, false, false] rfl rfl (any_of HT_.out (by kernel_rfl)) (fun _ _ _ h => h) (Or.inl ⟨by rfl, ?_⟩) ?_ ?_
                 rotate_left
                 ·intro w'
                  go_simp
                  with_reducible rfl
                 rotate_left
                 ·simp only [Act.put, List.setIfInBounds_toArray, List.set_cons_zero, List.set_cons_succ, i64_w, i32_w]
                  rfl
                 refine pure_ (i := 10) (N := some 19) (v := ?_) (a' := ?_) #[true, true, true, true, true, true, true, true, true, true, true, false, false] rfl rfl (any_of HT_.out (by kernel_rfl)) (fun _ _ _ h => h) (Or.inl ⟨by rfl, ?_⟩) ?_ ?_
                 rotate_left
                 ·intro w'
                  go_simp
                  with_reducible rfl
                 rotate_left
                 ·simp only [Act.put, List.setIfInBounds_toArray, List.set_cons_zero, List.set_cons_succ, i64_w, i32_w]
                  rfl
                 refine pure_ (i := 11) (N := some 20) (v := ?_) (a' := ?_) #[true, true, true, true, true, true, true, true, true, true, true, true, false] rfl rfl (any_of HT_.out (by kernel_rfl)) (fun _ _ _ h => h) (Or.inl ⟨by rfl, ?_⟩) ?_ ?_
                 rotate_left
                 ·intro w'
                  go_simp
                  with_reducible rfl
                 rotate_left
                 ·simp only [Act.put, List.setIfInBounds_toArray, List.set_cons_zero, List.set_cons_succ, i64_w, i32_w]
                  rfl
                 refine pure_ (i := 12) (N := some 21) (v := ?_) (a' := ?_) #[true, true, true, true, true, true, true, true, true, true, true, true, true] rfl rfl (any_of HT_.out (by kernel_rfl)) (fun _ _ _ h => h) (Or.inl ⟨by rfl, ?_⟩) ?_ ?_
                 rotate_left
                 ·intro w'
                  go_simp
                  with_reducible rfl
                 rotate_left
                 ·simp only [Act.put, List.setIfInBounds_toArray, List.set_cons_zero, List.set_cons_succ, i64_w, i32_w]
                  rfl
                 refine done_ (done_of HT_.out (by kernel_rfl)) ?_
                 go_upto_region 36 with (fail)
                 go_cut [147] (fun v147 wc => ∃ (kq : Nat) (x147_142 : Bool), v147 = .bool x147_142 ∧ Aside0 (laws_FnExactKindChanges.j5 kq t319 t321 t320 x147_142 = some r) ∧ Aside0 (kq ≤ kj130) ∧ Aside0 (Kd.R (Kd.int .i64) 3 wc w.heap.size (fun k_ => some k_ ≠ ((.slice Ao134 t321.length co134) : Value).ownBlock ∧ some k_ ≠ ((.slice Ao50 t309.length co50) : Value).ownBlock ∧ some k_ ≠ ((.slice Ao51 t310.length co51) : Value).ownBlock ∧ some k_ ≠ ((.slice Ao52 t311.length co52) : Value).ownBlock ∧ some k_ ≠ ((.slice Ao60 t313.length co60) : Value).ownBlock ∧ some k_ ≠ ((.slice Ao61 t314.length co61) : Value).ownBlock ∧ some k_ ≠ ((.slice Ao62 t315.length co62) : Value).ownBlock) (.slice Ao132 t319.length co132) t319) ∧ Aside0 (Kd.R (Kd.int .i64) 3 wc w.heap.size (fun k_ => some k_ ≠ ((.slice Ao132 t319.length co132) : Value).ownBlock ∧ some k_ ≠ ((.slice Ao50 t309.length co50) : Value).ownBlock ∧ some k_ ≠ ((.slice Ao51 t310.length co51) : Value).ownBlock ∧ some k_ ≠ ((.slice Ao52 t311.length co52) : Value).ownBlock ∧ some k_ ≠ ((.slice Ao60 t313.length co60) : Value).ownBlock ∧ some k_ ≠ ((.slice Ao61 t314.length co61) : Value).ownBlock ∧ some k_ ≠ ((.slice Ao62 t315.length co62) : Value).ownBlock) (.slice Ao134 t321.length co134) t321) ∧ Aside0 (Kd.R (Kd.int .i64) 3 wc w.heap.size (fun k_ => some k_ ≠ ((.slice Ao132 t319.length co132) : Value).ownBlock ∧ some k_ ≠ ((.slice Ao134 t321.length co134) : Value).ownBlock ∧ some k_ ≠ ((.slice Ao51 t310.length co51) : Value).ownBlock ∧ some k_ ≠ ((.slice Ao52 t311.length co52) : Value).ownBlock ∧ some k_ ≠ ((.slice Ao60 t313.length co60) : Value).ownBlock ∧ some k_ ≠ ((.slice Ao61 t314.length co61) : Value).ownBlock ∧ some k_ ≠ ((.slice Ao62 t315.length co62) : Value).ownBlock) (.slice Ao50 t309.length co50) t309) ∧ Aside0 (Kd.R (Kd.int .i64) 3 wc w.heap.size (fun k_ => some k_ ≠ ((.slice Ao132 t319.length co132) : Value).ownBlock ∧ some k_ ≠ ((.slice Ao134 t321.length co134) : Value).ownBlock ∧ some k_ ≠ ((.slice Ao50 t309.length co50) : Value).ownBlock ∧ some k_ ≠ ((.slice Ao52 t311.length co52) : Value).ownBlock ∧ some k_ ≠ ((.slice Ao60 t313.length co60) : Value).ownBlock ∧ some k_ ≠ ((.slice Ao61 t314.length co61) : Value).ownBlock ∧ some k_ ≠ ((.slice Ao62 t315.length co62) : Value).ownBlock) (.slice Ao51 t310.length co51) t310) ∧ Aside0 (Kd.R (Kd.int .i64) 3 wc w.heap.size (fun k_ => some k_ ≠ ((.slice Ao132 t319.length co132) : Value).ownBlock ∧ some k_ ≠ ((.slice Ao134 t321.length co134) : Value).ownBlock ∧ some k_ ≠ ((.slice Ao50 t309.length co50) : Value).ownBlock ∧ some k_ ≠ ((.slice Ao51 t310.length co51) : Value).ownBlock ∧ some k_ ≠ ((.slice Ao60 t313.length co60) : Value).ownBlock ∧ some k_ ≠ ((.slice Ao61 t314.length co61) : Value).ownBlock ∧ some k_ ≠ ((.slice Ao62 t315.length co62) : Value).ownBlock) (.slice Ao52 t311.length co52) t311) ∧ Aside0 (Kd.R (Kd.int .i64) 3 wc w.heap.size (fun k_ => some k_ ≠ ((.slice Ao132 t319.length co132) : Value).ownBlock ∧ some k_ ≠ ((.slice Ao134 t321.length co134) : Value).ownBlock ∧ some k_ ≠ ((.slice Ao50 t309.length co50) : Value).ownBlock ∧ some k_ ≠ ((.slice Ao51 t310.length co51) : Value).ownBlock ∧ some k_ ≠ ((.slice Ao52 t311.length co52) : Value).ownBlock ∧ some k_ ≠ ((.slice Ao61 t314.length co61) : Value).ownBlock ∧ some k_ ≠ ((.slice Ao62 t315.length co62) : Value).ownBlock) (.slice Ao60 t313.length co60) t313) ∧ Aside0 (Kd.R (Kd.int .i64) 3 wc w.heap.size (fun k_ => some k_ ≠ ((.slice Ao132 t319.length co132) : Value).ownBlock ∧ some k_ ≠ ((.slice Ao134 t321.length co134) : Value).ownBlock ∧ some k_ ≠ ((.slice Ao50 t309.length co50) : Value).ownBlock ∧ some k_ ≠ ((.slice Ao51 t310.length co51) : Value).ownBlock ∧ some k_ ≠ ((.slice Ao52 t311.length co52) : Value).ownBlock ∧ some k_ ≠ ((.slice Ao60 t313.length co60) : Value).ownBlock ∧ some k_ ≠ ((.slice Ao62 t315.length co62) : Value).ownBlock) (.slice Ao61 t314.length co61) t314) ∧ Aside0 (Kd.R (Kd.int .i64) 3 wc w.heap.size (fun k_ => some k_ ≠ ((.slice Ao132 t319.length co132) : Value).ownBlock ∧ some k_ ≠ ((.slice Ao134 t321.length co134) : Value).ownBlock ∧ some k_ ≠ ((.slice Ao50 t309.length co50) : Value).ownBlock ∧ some k_ ≠ ((.slice Ao51 t310.length co51) : Value).ownBlock ∧ some k_ ≠ ((.slice Ao52 t311.length co52) : Value).ownBlock ∧ some k_ ≠ ((.slice Ao60 t313.length co60) : Value).ownBlock ∧ some k_ ≠ ((.slice Ao61 t314.length co61) : Value).ownBlock) (.slice Ao62 t315.length co62) t315) ∧ Aside0 (wc.heap[gb212]? = some (.cells #[.int .i64 a0_0, .int .i64 a0_1, .int .i64 a0_2, (.slice A0_3 l0_3.length c0_3), (.slice A0_4 l0_4.length c0_4), (.slice A0_5 l0_5.length c0_5)] 38 (0, 0))) ∧ Aside0 (wc.heap[gb213]? = some (.cells #[.int .i64 a1_0, .int .i64 a1_1, .int .i64 a1_2, (.slice A1_3 l1_3.length c1_3), (.slice A1_4 l1_4.length c1_4), (.slice A1_5 l1_5.length c1_5)] 38 (0, 0))) ∧ Aside0 (wc.heap[gb259]? = some (.cells #[.int .i64 t247, .int .i64 t248, .int .i64 t249, (.slice Ao50 t309.length co50), (.slice Ao51 t310.length co51), (.slice Ao52 t311.length co52)] 44 (0, 0))) ∧ Aside0 (wc.heap[gb272]? = some (.cells #[.int .i64 t260, .int .i64 t261, .int .i64 t262, (.slice Ao60 t313.length co60), (.slice Ao61 t314.length co61), (.slice Ao62 t315.length co62)] 44 (0, 0))) ∧ Aside0 (Below w.heap.size w wc))
                 case first =>
                  have H := HC143.out
                  clear HC143
                  replace H := Option.bind_eq_some_iff.mp H
                  obtain ⟨t355, A1540, H⟩ := H
                  have A154 := Aside0.mk A1540
                  clear A1540
                  by_cases c155 : t355 = true
                  ·subst c155
                   have H1 : ((laws_eqIntS.f kj130 t351 t243).bind fun t356 => (if t356 = true then (laws_FnExactKindChanges.j5 kj130 t319 t321 t320 (t354 != t246)) else (laws_FnExactKindChanges.j5 kj130 t319 t321 t320 true))) = some r := by rw [if_pos rfl] at H; exact H
                   clear H
                   have H := H1
                   clear H1
                   replace H := Option.bind_eq_some_iff.mp H
                   obtain ⟨t356, A1560, H⟩ := H
                   have A156 := Aside0.mk A1560
                   clear A1560
                   by_cases c157 : t356 = true
                   ·subst c157
                    have H1 : (laws_FnExactKindChanges.j5 kj130 t319 t321 t320 (t354 != t246)) = some r := by rw [if_pos rfl] at H; exact H
                    clear H
                    have H := H1
                    clear H1
                    have H' := Aside0.mk H
                    clear H
                    obtain ⟨Ao158, co158, eo158⟩ := Kd.R_slice HO350.out
                    subst eo158
                    obtain ⟨Ao159, co159, eo159⟩ := Kd.R_slice HO_8.out
                    subst eo159
                    go_wp2_with (first | ((with_reducible refine gate_callee (f := 35) rfl ?_); refine goesL_ (some 135) rfl rfl Try.func35 (by kernel_rfl) rfl #[.slice Ao158 t348.length co158, .slice Ao159 t240.length co159] rfl mpx7 ?_; (with_reducible refine (laws_eqIntS.calls kj130 _ _ t348 _ _ t240 true _ ?side1 ?side2 ?side3 ?side4 A154.out).mono ?_); (case side1 => exact cRx7 HO350.out); (case side2 => exact (Kd.R_reads' HO350.out).2.1); (case side3 => exact cRx7 HO_8.out); (case side4 => exact (Kd.R_reads' HO_8.out).2.1); rintro e w' ⟨rfl, ⟨nd, rfl⟩⟩; refine ⟨_, rfl, ?_⟩; obtain ⟨Ao160, co160, eo160⟩ := Kd.R_slice HO353.out; subst eo160; obtain ⟨Ao161, co161, eo161⟩ := Kd.R_slice HO_9.out; subst eo161) | (go_at_call 35; (with_reducible refine (laws_eqIntS.calls kj130 _ _ t351 _ _ t243 true _ ?side1 ?side2 ?side3 ?side4 A156.out).mono ?_); (case side1 => exact cRx7 HO353.out); (case side2 => exact (Kd.R_reads' HO353.out).2.1); (case side3 => exact cRx7 HO_9.out); (case side4 => exact (Kd.R_reads' HO_9.out).2.1); rintro e w' ⟨rfl, ⟨nd, rfl⟩⟩))
                    go_meet
                    case rel => exact ⟨_, ((t354 != t246)), (by first | rfl | (simp; done) | (simp [*]; done)), H', ⟨by have := HJ25.out; have := HJ81.out; have := HJ91.out; have := HJ101.out; have := HJ130.out; first | omega | exact Nat.le_refl _⟩, ⟨by (try simp only [hl260003_101, hl260004_101, hl260005_101, hl273003_101, hl273004_101, hl273005_101, hl13_130, hl14_130]); exact rRx7 (mox7 HO_13.out)⟩, ⟨by (try simp only [hl260003_101, hl260004_101, hl260005_101, hl273003_101, hl273004_101, hl273005_101, hl13_130, hl14_130]); exact rRx7 (mox7 HO_14.out)⟩, ⟨by (try simp only [hl260003_101, hl260004_101, hl260005_101, hl273003_101, hl273004_101, hl273005_101, hl13_130, hl14_130]); exact rRx7 (mox7 HO_260003.out)⟩, ⟨by (try simp only [hl260003_101, hl260004_101, hl260005_101, hl273003_101, hl273004_101, hl273005_101, hl13_130, hl14_130]); exact rRx7 (mox7 HO_260004.out)⟩, ⟨by (try simp only [hl260003_101, hl260004_101, hl260005_101, hl273003_101, hl273004_101, hl273005_101, hl13_130, hl14_130]); exact rRx7 (mox7 HO_260005.out)⟩, ⟨by (try simp only [hl260003_101, hl260004_101, hl260005_101, hl273003_101, hl273004_101, hl273005_101, hl13_130, hl14_130]); exact rRx7 (mox7 HO_273003.out)⟩, ⟨by (try simp only [hl260003_101, hl260004_101, hl260005_101, hl273003_101, hl273004_101, hl273005_101, hl13_130, hl14_130]); exact rRx7 (mox7 HO_273004.out)⟩, ⟨by (try simp only [hl260003_101, hl260004_101, hl260005_101, hl273003_101, hl273004_101, hl273005_101, hl13_130, hl14_130]); exact rRx7 (mox7 HO_273005.out)⟩, ⟨by (try simp only [hl260003_101, hl260004_101, hl260005_101, hl273003_101, hl273004_101, hl273005_101, hl13_130, hl14_130]); (with_reducible repeat (first | refine blk_drewN ?_ _ | refine blk_drew ?_ | refine blk_alloc ?_ _)); exact BK212.out⟩, ⟨by (try simp only [hl260003_101, hl260004_101, hl260005_101, hl273003_101, hl273004_101, hl273005_101, hl13_130, hl14_130]); (with_reducible repeat (first | refine blk_drewN ?_ _ | refine blk_drew ?_ | refine blk_alloc ?_ _)); exact BK213.out⟩, ⟨by (try simp only [hl260003_101, hl260004_101, hl260005_101, hl273003_101, hl273004_101, hl273005_101, hl13_130, hl14_130]); (with_reducible repeat (first | refine blk_drewN ?_ _ | refine blk_drew ?_ | refine blk_alloc ?_ _)); exact BK259.out⟩, ⟨by (try simp only [hl260003_101, hl260004_101, hl260005_101, hl273003_101, hl273004_101, hl273005_101, hl13_130, hl14_130]); (with_reducible repeat (first | refine blk_drewN ?_ _ | refine blk_drew ?_ | refine blk_alloc ?_ _)); exact BK272.out⟩, ⟨be4x7 HB.out GE212.out GE213.out GE259.out GE272.out⟩⟩
                   ·replace c157 := Bool.eq_false_iff.mpr c157
                    subst c157
                    have H1 : (laws_FnExactKindChanges.j5 kj130 t319 t321 t320 true) = some r := by rw [if_neg (show ¬ (false = true) by decide)] at H; exact H
                    clear H
                    have H := H1
                    clear H1
                    have H' := Aside0.mk H
                    clear H
                    obtain ⟨Ao162, co162, eo162⟩ := Kd.R_slice HO350.out
                    subst eo162
                    obtain ⟨Ao163, co163, eo163⟩ := Kd.R_slice HO_8.out
                    subst eo163
                    go_wp2_with (first | ((with_reducible refine gate_callee (f := 35) rfl ?_); refine goesL_ (some 135) rfl rfl Try.func35 (by kernel_rfl) rfl #[.slice Ao162 t348.length co162, .slice Ao163 t240.length co163] rfl mpx7 ?_; (with_reducible refine (laws_eqIntS.calls kj130 _ _ t348 _ _ t240 true _ ?side1 ?side2 ?side3 ?side4 A154.out).mono ?_); (case side1 => exact cRx7 HO350.out); (case side2 => exact (Kd.R_reads' HO350.out).2.1); (case side3 => exact cRx7 HO_8.out); (case side4 => exact (Kd.R_reads' HO_8.out).2.1); rintro e w' ⟨rfl, ⟨nd, rfl⟩⟩; refine ⟨_, rfl, ?_⟩; obtain ⟨Ao164, co164, eo164⟩ := Kd.R_slice HO353.out; subst eo164; obtain ⟨Ao165, co165, eo165⟩ := Kd.R_slice HO_9.out; subst eo165) | (go_at_call 35; (with_reducible refine (laws_eqIntS.calls kj130 _ _ t351 _ _ t243 false _ ?side1 ?side2 ?side3 ?side4 A156.out).mono ?_); (case side1 => exact cRx7 HO353.out); (case side2 => exact (Kd.R_reads' HO353.out).2.1); (case side3 => exact cRx7 HO_9.out); (case side4 => exact (Kd.R_reads' HO_9.out).2.1); rintro e w' ⟨rfl, ⟨nd, rfl⟩⟩))
                    go_meet
                    case rel => exact ⟨_, (true), (by first | rfl | (simp; done) | (simp [*]; done)), H', ⟨by have := HJ25.out; have := HJ81.out; have := HJ91.out; have := HJ101.out; have := HJ130.out; first | omega | exact Nat.le_refl _⟩, ⟨by (try simp only [hl260003_101, hl260004_101, hl260005_101, hl273003_101, hl273004_101, hl273005_101, hl13_130, hl14_130]); exact rRx7 (mox7 HO_13.out)⟩, ⟨by (try simp only [hl260003_101, hl260004_101, hl260005_101, hl273003_101, hl273004_101, hl273005_101, hl13_130, hl14_130]); exact rRx7 (mox7 HO_14.out)⟩, ⟨by (try simp only [hl260003_101, hl260004_101, hl260005_101, hl273003_101, hl273004_101, hl273005_101, hl13_130, hl14_130]); exact rRx7 (mox7 HO_260003.out)⟩, ⟨by (try simp only [hl260003_101, hl260004_101, hl260005_101, hl273003_101, hl273004_101, hl273005_101, hl13_130, hl14_130]); exact rRx7 (mox7 HO_260004.out)⟩, ⟨by (try simp only [hl260003_101, hl260004_101, hl260005_101, hl273003_101, hl273004_101, hl273005_101, hl13_130, hl14_130]); exact rRx7 (mox7 HO_260005.out)⟩, ⟨by (try simp only [hl260003_101, hl260004_101, hl260005_101, hl273003_101, hl273004_101, hl273005_101, hl13_130, hl14_130]); exact rRx7 (mox7 HO_273003.out)⟩, ⟨by (try simp only [hl260003_101, hl260004_101, hl260005_101, hl273003_101, hl273004_101, hl273005_101, hl13_130, hl14_130]); exact rRx7 (mox7 HO_273004.out)⟩, ⟨by (try simp only [hl260003_101, hl260004_101, hl260005_101, hl273003_101, hl273004_101, hl273005_101, hl13_130, hl14_130]); exact rRx7 (mox7 HO_273005.out)⟩, ⟨by (try simp only [hl260003_101, hl260004_101, hl260005_101, hl273003_101, hl273004_101, hl273005_101, hl13_130, hl14_130]); (with_reducible repeat (first | refine blk_drewN ?_ _ | refine blk_drew ?_ | refine blk_alloc ?_ _)); exact BK212.out⟩, ⟨by (try simp only [hl260003_101, hl260004_101, hl260005_101, hl273003_101, hl273004_101, hl273005_101, hl13_130, hl14_130]); (with_reducible repeat (first | refine blk_drewN ?_ _ | refine blk_drew ?_ | refine blk_alloc ?_ _)); exact BK213.out⟩, ⟨by (try simp only [hl260003_101, hl260004_101, hl260005_101, hl273003_101, hl273004_101, hl273005_101, hl13_130, hl14_130]); (with_reducible repeat (first | refine blk_drewN ?_ _ | refine blk_drew ?_ | refine blk_alloc ?_ _)); exact BK259.out⟩, ⟨by (try simp only [hl260003_101, hl260004_101, hl260005_101, hl273003_101, hl273004_101, hl273005_101, hl13_130, hl14_130]); (with_reducible repeat (first | refine blk_drewN ?_ _ | refine blk_drew ?_ | refine blk_alloc ?_ _)); exact BK272.out⟩, ⟨be4x7 HB.out GE212.out GE213.out GE259.out GE272.out⟩⟩
                  ·replace c155 := Bool.eq_false_iff.mpr c155
                   subst c155
                   have H1 : (laws_FnExactKindChanges.j5 kj130 t319 t321 t320 true) = some r := by rw [if_neg (show ¬ (false = true) by decide)] at H; exact H
                   clear H
                   have H := H1
                   clear H1
                   have H' := Aside0.mk H
                   clear H
                   obtain ⟨Ao166, co166, eo166⟩ := Kd.R_slice HO350.out
                   subst eo166
                   obtain ⟨Ao167, co167, eo167⟩ := Kd.R_slice HO_8.out
                   subst eo167
                   go_wp2_with (first | ((with_reducible refine gate_callee (f := 35) rfl ?_); refine goesL_ (some 135) rfl rfl Try.func35 (by kernel_rfl) rfl #[.slice Ao166 t348.length co166, .slice Ao167 t240.length co167] rfl mpx7 ?_; (with_reducible refine (laws_eqIntS.calls kj130 _ _ t348 _ _ t240 false _ ?side1 ?side2 ?side3 ?side4 A154.out).mono ?_); (case side1 => exact cRx7 HO350.out); (case side2 => exact (Kd.R_reads' HO350.out).2.1); (case side3 => exact cRx7 HO_8.out); (case side4 => exact (Kd.R_reads' HO_8.out).2.1); rintro e w' ⟨rfl, ⟨nd, rfl⟩⟩; refine ⟨_, rfl, ?_⟩))
                   go_meet
                   case rel => exact ⟨_, (true), (by first | rfl | (simp; done) | (simp [*]; done)), H', ⟨by have := HJ25.out; have := HJ81.out; have := HJ91.out; have := HJ101.out; have := HJ130.out; first | omega | exact Nat.le_refl _⟩, ⟨by (try simp only [hl260003_101, hl260004_101, hl260005_101, hl273003_101, hl273004_101, hl273005_101, hl13_130, hl14_130]); exact rRx7 (mox7 HO_13.out)⟩, ⟨by (try simp only [hl260003_101, hl260004_101, hl260005_101, hl273003_101, hl273004_101, hl273005_101, hl13_130, hl14_130]); exact rRx7 (mox7 HO_14.out)⟩, ⟨by (try simp only [hl260003_101, hl260004_101, hl260005_101, hl273003_101, hl273004_101, hl273005_101, hl13_130, hl14_130]); exact rRx7 (mox7 HO_260003.out)⟩, ⟨by (try simp only [hl260003_101, hl260004_101, hl260005_101, hl273003_101, hl273004_101, hl273005_101, hl13_130, hl14_130]); exact rRx7 (mox7 HO_260004.out)⟩, ⟨by (try simp only [hl260003_101, hl260004_101, hl260005_101, hl273003_101, hl273004_101, hl273005_101, hl13_130, hl14_130]); exact rRx7 (mox7 HO_260005.out)⟩, ⟨by (try simp only [hl260003_101, hl260004_101, hl260005_101, hl273003_101, hl273004_101, hl273005_101, hl13_130, hl14_130]); exact rRx7 (mox7 HO_273003.out)⟩, ⟨by (try simp only [hl260003_101, hl260004_101, hl260005_101, hl273003_101, hl273004_101, hl273005_101, hl13_130, hl14_130]); exact rRx7 (mox7 HO_273004.out)⟩, ⟨by (try simp only [hl260003_101, hl260004_101, hl260005_101, hl273003_101, hl273004_101, hl273005_101, hl13_130, hl14_130]); exact rRx7 (mox7 HO_273005.out)⟩, ⟨by (try simp only [hl260003_101, hl260004_101, hl260005_101, hl273003_101, hl273004_101, hl273005_101, hl13_130, hl14_130]); (with_reducible repeat (first | refine blk_drewN ?_ _ | refine blk_drew ?_ | refine blk_alloc ?_ _)); exact BK212.out⟩, ⟨by (try simp only [hl260003_101, hl260004_101, hl260005_101, hl273003_101, hl273004_101, hl273005_101, hl13_130, hl14_130]); (with_reducible repeat (first | refine blk_drewN ?_ _ | refine blk_drew ?_ | refine blk_alloc ?_ _)); exact BK213.out⟩, ⟨by (try simp only [hl260003_101, hl260004_101, hl260005_101, hl273003_101, hl273004_101, hl273005_101, hl13_130, hl14_130]); (with_reducible repeat (first | refine blk_drewN ?_ _ | refine blk_drew ?_ | refine blk_alloc ?_ _)); exact BK259.out⟩, ⟨by (try simp only [hl260003_101, hl260004_101, hl260005_101, hl273003_101, hl273004_101, hl273005_101, hl13_130, hl14_130]); (with_reducible repeat (first | refine blk_drewN ?_ _ | refine blk_drew ?_ | refine blk_alloc ?_ _)); exact BK272.out⟩, ⟨be4x7 HB.out GE212.out GE213.out GE259.out GE272.out⟩⟩
                 case rest =>
                  clear HC143
                  try clear c138; try clear c138b0; try clear c139; try clear c139b0; try clear c139b1; try clear c155; try clear c157
                  obtain ⟨kq, x147_142, rfl, HA, HJ142, HO_13, HO_14, HO_260003, HO_260004, HO_260005, HO_273003, HO_273004, HO_273005, BK212, BK213, BK259, BK272, HB⟩ := hcut
                  cases kq with
                  | zero => exact absurd HA.out (by simp [laws_FnExactKindChanges.j5])
                  | succ kj142 =>
                   have H := HA.out
                   clear HA
                   simp only [laws_FnExactKindChanges.j5] at H
                   by_cases c168 : x147_142 = true
                   ·subst c168
                    have H1 : (some false) = some r := by rw [if_pos rfl] at H; exact H
                    clear H
                    have H := H1
                    clear H1
                    obtain rfl := Option.some.inj H
                    go_wp2
                    go_ret
                    exact ⟨by first | rfl | (simp [errW_none, errW_some] <;> rfl) | (simp [*, errW_none, errW_some] <;> rfl), be4x7 HB.out GE212.out GE213.out GE259.out GE272.out⟩
                   ·replace c168 := Bool.eq_false_iff.mpr c168
                    subst c168
                    have H1 : ((laws_heldIntS.f kj142 t319 1).bind fun t357 => (if t357 < 0 then (some false) else ((laws_heldIntS.f kj142 t321 t357).bind fun t358 => (if t358 < 0 then (some false) else (if t358 = t320 then (some true) else (some false)))))) = some r := by rw [if_neg (show ¬ (false = true) by decide)] at H; exact H
                    clear H
                    have H := H1
                    clear H1
                    replace H := Option.bind_eq_some_iff.mp H
                    obtain ⟨t357, A1690, H⟩ := H
                    have A169 := Aside0.mk A1690
                    clear A1690
                    by_cases c170 : t357 < 0
                    ·rw [if_pos c170] at H
                     have c170b0 : decide (t357 < 0) = true := decide_eq_true c170
                     clear c170
                     obtain rfl := Option.some.inj H
                     go_wp2_with (first | ((with_reducible refine gate_callee (f := 38) rfl ?_); refine goesL_ (some 150) rfl rfl Try.func38 (by kernel_rfl) rfl #[.slice Ao132 t319.length co132, .int .i64 1] rfl mpx7 ?_; (with_reducible refine (laws_heldIntS.calls kj142 _ _ t319 1 t357 _ ?side1 ?side2 A169.out).mono ?_); (case side1 => exact cRx7 HO_13.out); (case side2 => exact (Kd.R_reads' HO_13.out).2.1); rintro e w' ⟨rfl, ⟨nd, rfl⟩⟩; refine ⟨_, rfl, ?_⟩))
                     go_ret
                     exact ⟨by first | rfl | (simp [errW_none, errW_some] <;> rfl) | (simp [*, errW_none, errW_some] <;> rfl), be4x7 HB.out GE212.out GE213.out GE259.out GE272.out⟩
                    ·rw [if_neg c170] at H
                     have c170b0 : decide (t357 < 0) = false := decide_eq_false c170
                     clear c170
                     replace H := Option.bind_eq_some_iff.mp H
                     obtain ⟨t358, A1710, H⟩ := H
                     have A171 := Aside0.mk A1710
                     clear A1710
                     by_cases c172 : t358 < 0
                     ·rw [if_pos c172] at H
                      have c172b0 : decide (t358 < 0) = true := decide_eq_true c172
                      clear c172
                      obtain rfl := Option.some.inj H
                      go_wp2_with (first | ((with_reducible refine gate_callee (f := 38) rfl ?_); refine goesL_ (some 150) rfl rfl Try.func38 (by kernel_rfl) rfl #[.slice Ao132 t319.length co132, .int .i64 1] rfl mpx7 ?_; (with_reducible refine (laws_heldIntS.calls kj142 _ _ t319 1 t357 _ ?side1 ?side2 A169.out).mono ?_); (case side1 => exact cRx7 HO_13.out); (case side2 => exact (Kd.R_reads' HO_13.out).2.1); rintro e w' ⟨rfl, ⟨nd, rfl⟩⟩; refine ⟨_, rfl, ?_⟩) | ((with_reducible refine gate_callee (f := 38) rfl ?_); refine goesL_ (some 155) rfl rfl Try.func38 (by kernel_rfl) rfl #[.slice Ao134 t321.length co134, .int .i64 t357] rfl mpx7 ?_; (with_reducible refine (laws_heldIntS.calls kj142 _ _ t321 t357 t358 _ ?side1 ?side2 A171.out).mono ?_); (case side1 => exact cRx7 HO_14.out); (case side2 => exact (Kd.R_reads' HO_14.out).2.1); rintro e w' ⟨rfl, ⟨nd, rfl⟩⟩; refine ⟨_, rfl, ?_⟩))
                      go_ret
                      exact ⟨by first | rfl | (simp [errW_none, errW_some] <;> rfl) | (simp [*, errW_none, errW_some] <;> rfl), be4x7 HB.out GE212.out GE213.out GE259.out GE272.out⟩
                     ·rw [if_neg c172] at H
                      have c172b0 : decide (t358 < 0) = false := decide_eq_false c172
                      clear c172
                      by_cases c173 : t358 = t320
                      ·rw [if_pos c173] at H
                       have c173b0 : (t358 == t320) = true := beq_iff_eq.mpr c173
                       have c173b1 : (t358 != t320) = false := bne_eq_false_iff_eq.mpr c173
                       clear c173
                       obtain rfl := Option.some.inj H
                       go_wp2_with (first | ((with_reducible refine gate_callee (f := 38) rfl ?_); refine goesL_ (some 150) rfl rfl Try.func38 (by kernel_rfl) rfl #[.slice Ao132 t319.length co132, .int .i64 1] rfl mpx7 ?_; (with_reducible refine (laws_heldIntS.calls kj142 _ _ t319 1 t357 _ ?side1 ?side2 A169.out).mono ?_); (case side1 => exact cRx7 HO_13.out); (case side2 => exact (Kd.R_reads' HO_13.out).2.1); rintro e w' ⟨rfl, ⟨nd, rfl⟩⟩; refine ⟨_, rfl, ?_⟩) | ((with_reducible refine gate_callee (f := 38) rfl ?_); refine goesL_ (some 155) rfl rfl Try.func38 (by kernel_rfl) rfl #[.slice Ao134 t321.length co134, .int .i64 t357] rfl mpx7 ?_; (with_reducible refine (laws_heldIntS.calls kj142 _ _ t321 t357 t358 _ ?side1 ?side2 A171.out).mono ?_); (case side1 => exact cRx7 HO_14.out); (case side2 => exact (Kd.R_reads' HO_14.out).2.1); rintro e w' ⟨rfl, ⟨nd, rfl⟩⟩; refine ⟨_, rfl, ?_⟩))
                       go_ret
                       exact ⟨by first | rfl | (simp [errW_none, errW_some] <;> rfl) | (simp [*, errW_none, errW_some] <;> rfl), be4x7 HB.out GE212.out GE213.out GE259.out GE272.out⟩
                      ·rw [if_neg c173] at H
                       have c173b0 : (t358 == t320) = false := beq_eq_false_iff_ne.mpr c173
                       have c173b1 : (t358 != t320) = true := bne_iff_ne.mpr c173
                       obtain rfl := Option.some.inj H
                       go_wp2_with (first | ((with_reducible refine gate_callee (f := 38) rfl ?_); refine goesL_ (some 150) rfl rfl Try.func38 (by kernel_rfl) rfl #[.slice Ao132 t319.length co132, .int .i64 1] rfl mpx7 ?_; (with_reducible refine (laws_heldIntS.calls kj142 _ _ t319 1 t357 _ ?side1 ?side2 A169.out).mono ?_); (case side1 => exact cRx7 HO_13.out); (case side2 => exact (Kd.R_reads' HO_13.out).2.1); rintro e w' ⟨rfl, ⟨nd, rfl⟩⟩; refine ⟨_, rfl, ?_⟩) | ((with_reducible refine gate_callee (f := 38) rfl ?_); refine goesL_ (some 155) rfl rfl Try.func38 (by kernel_rfl) rfl #[.slice Ao134 t321.length co134, .int .i64 t357] rfl mpx7 ?_; (with_reducible refine (laws_heldIntS.calls kj142 _ _ t321 t357 t358 _ ?side1 ?side2 A171.out).mono ?_); (case side1 => exact cRx7 HO_14.out); (case side2 => exact (Kd.R_reads' HO_14.out).2.1); rintro e w' ⟨rfl, ⟨nd, rfl⟩⟩; refine ⟨_, rfl, ?_⟩))
                       go_ret
                       exact ⟨by first | rfl | (simp [errW_none, errW_some] <;> rfl) | (simp [*, errW_none, errW_some] <;> rfl), be4x7 HB.out GE212.out GE213.out GE259.out GE272.out⟩
                ·rw [if_neg c139] at H
                 have c139b0 : (t323 == t320) = false := beq_eq_false_iff_ne.mpr c139
                 have c139b1 : (t323 != t320) = true := bne_iff_ne.mpr c139
                 obtain rfl := Option.some.inj H
                 go_wp2_with (first | ((with_reducible refine gate_callee (f := 38) rfl ?_); refine goesL_ (some 117) rfl rfl Try.func38 (by kernel_rfl) rfl #[.slice Ao134 t321.length co134, .int .i64 t322] rfl mpx7 ?_; (with_reducible refine (laws_heldIntS.calls kj130 _ _ t321 t322 t323 _ ?side1 ?side2 A137.out).mono ?_); (case side1 => exact cRx7 HO_14.out); (case side2 => exact (Kd.R_reads' HO_14.out).2.1); rintro e w' ⟨rfl, ⟨nd, rfl⟩⟩; refine ⟨_, rfl, ?_⟩))
                 go_ret
                 exact ⟨by first | rfl | (simp [errW_none, errW_some] <;> rfl) | (simp [*, errW_none, errW_some] <;> rfl), be4x7 HB.out GE212.out GE213.out GE259.out GE272.out⟩

end Go.Proofs.Ytoaglacdklmafaa.PFnExactKindChanges
