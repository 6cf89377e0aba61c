/- This text is this session's own, not the print's: programs (wip/squeeze.py and others) made it out of what print.sh, or wip/ownprint.py, had written (BYTES set higher), its facts said by short words. -/
import Derived.Test.YtagnldmaglbpaaaPFnExactMixModelsx0
import Derived.Test.YtagnldmaglbpaaaPFnExactMixModelsx2
import Derived.Test.YtagnldmaglbpaaaPFnExactMixModelsx4
import Derived.Test.YtagnldmaglbpaaaPFnExactMixModelsx7
import Derived.Test.YtagnldmaglbpaaaPFnExactMixModelsx8
import Derived.Test.YtagnldmaglbpaaaPFnExactMixModelsvx9
import Derived.Test.YtagnldmaglbpaaaPFnExactMixModelswx9
import Derived.Test.YtagnldmaglbpaaaPFnExactMixModelss1x9
namespace Go.Proofs.Ytagnldmaglbpaaa.PFnExactMixModels
open Go.RowKit Go.Proofs.YtagnldmaglbpaaaW.PrintWords Go.Proofs.YtagnldmaglbpaaaW.PrintLast Go.Proofs.YtagnldmaglbpaaaW.PrintMore
attribute [local go_sem] max2_int min2_int max_two min_two max_three min_three max_four min_four   -- for this text's walks alone
set_option linter.unusedVariables false
set_option linter.unusedSimpArgs false

/-! ### laws_FnExactMixModels: function 6 -/
mutual
def laws_FnExactMixModels.j0 : Nat → Int → Bool → Bool → Bool → Int → Int → Int → List Int → List Int → List Int → Int → Int → Int → List Int → List Int → List Int → Int → Int → Int → List Int → List Int → List Int → Int → Int → Int → List Int → List Int → List Int → Int → Int → Int → List Int → List Int → List Int → Int → Int → Int → List Int → List Int → List Int → Option (Bool)
 | 0, _, _, _, _, _, _, _, _, _, _, _, _, _, _, _, _, _, _, _, _, _, _, _, _, _, _, _, _, _, _, _, _, _, _, _, _, _, _, _, _ => none
 | k + 1, x2, x9, x13, x57, x262000, x262001, x262002, x262003, x262004, x262005, x263000, x263001, x263002, x263003, x263004, x263005, x303000, x303001, x303002, x303003, x303004, x303005, x316000, x316001, x316002, x316003, x316004, x316005, x329000, x329001, x329002, x329003, x329004, x329005, x343000, x343001, x343002, x343003, x343004, x343005 => if x57 = true then (some false) else ((laws_toModel.f k x262000 x262001 x262002 x262003 x262004 x262005).bind fun bt344 => ((laws_eqModel.f k x316000 x316001 x316002 x316003 x316004 x316005 bt344.1 bt344.2.1 bt344.2.2.1 bt344.2.2.2.1 bt344.2.2.2.2.1 bt344.2.2.2.2.2).bind fun t356 => (if t356 = true then (laws_FnExactMixModels.j1 k x2 x9 x13 x262000 x262001 x262002 x262003 x262004 x262005 x263000 x263001 x263002 x263003 x263004 x263005 x303000 x303001 x303002 x303003 x303004 x303005 x316000 x316001 x316002 x316003 x316004 x316005 x329000 x329001 x329002 x329003 x329004 x329005 x343000 x343001 x343002 x343003 x343004 x343005) else (some false))))
def laws_FnExactMixModels.j1 : Nat → Int → Bool → Bool → Int → Int → Int → List Int → List Int → List Int → Int → Int → Int → List Int → List Int → List Int → Int → Int → Int → List Int → List Int → List Int → Int → Int → Int → List Int → List Int → List Int → Int → Int → Int → List Int → List Int → List Int → Int → Int → Int → List Int → List Int → List Int → Option (Bool)
 | 0, _, _, _, _, _, _, _, _, _, _, _, _, _, _, _, _, _, _, _, _, _, _, _, _, _, _, _, _, _, _, _, _, _, _, _, _, _, _, _ => none
 | k + 1, x2, x9, x13, x262000, x262001, x262002, x262003, x262004, x262005, x263000, x263001, x263002, x263003, x263004, x263005, x303000, x303001, x303002, x303003, x303004, x303005, x316000, x316001, x316002, x316003, x316004, x316005, x329000, x329001, x329002, x329003, x329004, x329005, x343000, x343001, x343002, x343003, x343004, x343005 => (laws_toModel.f k x263000 x263001 x263002 x263003 x263004 x263005).bind fun bt357 => ((laws_eqModel.f k x329000 x329001 x329002 x329003 x329004 x329005 bt357.1 bt357.2.1 bt357.2.2.1 bt357.2.2.2.1 bt357.2.2.2.2.1 bt357.2.2.2.2.2).bind fun t369 => (if t369 = true then (laws_FnExactMixModels.j2 k x2 x9 x13 x262000 x262001 x262002 x262003 x262004 x262005 x263000 x263001 x263002 x263003 x263004 x263005 x303000 x303001 x303002 x303003 x303004 x303005 x316000 x316001 x316002 x316003 x316004 x316005 x329000 x329001 x329002 x329003 x329004 x329005 x343000 x343001 x343002 x343003 x343004 x343005) else (some false)))
def laws_FnExactMixModels.j2 : Nat → Int → Bool → Bool → Int → Int → Int → List Int → List Int → List Int → Int → Int → Int → List Int → List Int → List Int → Int → Int → Int → List Int → List Int → List Int → Int → Int → Int → List Int → List Int → List Int → Int → Int → Int → List Int → List Int → List Int → Int → Int → Int → List Int → List Int → List Int → Option (Bool)
 | 0, _, _, _, _, _, _, _, _, _, _, _, _, _, _, _, _, _, _, _, _, _, _, _, _, _, _, _, _, _, _, _, _, _, _, _, _, _, _, _ => none
 | k + 1, x2, x9, x13, x262000, x262001, x262002, x262003, x262004, x262005, x263000, x263001, x263002, x263003, x263004, x263005, x303000, x303001, x303002, x303003, x303004, x303005, x316000, x316001, x316002, x316003, x316004, x316005, x329000, x329001, x329002, x329003, x329004, x329005, x343000, x343001, x343002, x343003, x343004, x343005 => (laws_markModel.f k x316000 x316001 x316002 x316003 x316004 x316005 1).bind fun bt370 => ((laws_markModel.f k x329000 x329001 x329002 x329003 x329004 x329005 bt370.1).bind fun bt374 => (if bt374.1 < 0 then (laws_FnExactMixModels.j3 k x2 x9 true x262000 x262001 x262002 x262003 x262004 x262005 x263000 x263001 x263002 x263003 x263004 x263005 x303000 x303001 x303002 x303003 x303004 x303005 x343000 x343001 x343002 x343003 x343004 x343005) else ((laws_eqModel.f k x343000 x343001 x343002 x343003 x343004 x343005 x303000 x303001 x303002 x303003 x303004 x303005).bind fun t378 => (if t378 = true then (laws_FnExactMixModels.j3 k x2 x9 (x13 != x9) x262000 x262001 x262002 x262003 x262004 x262005 x263000 x263001 x263002 x263003 x263004 x263005 x303000 x303001 x303002 x303003 x303004 x303005 x343000 x343001 x343002 x343003 x343004 x343005) else (laws_FnExactMixModels.j3 k x2 x9 true x262000 x262001 x262002 x262003 x262004 x262005 x263000 x263001 x263002 x263003 x263004 x263005 x303000 x303001 x303002 x303003 x303004 x303005 x343000 x343001 x343002 x343003 x343004 x343005)))))
def laws_FnExactMixModels.j3 : Nat → Int → Bool → Bool → Int → Int → Int → List Int → List Int → List Int → Int → Int → Int → List Int → List Int → List Int → Int → Int → Int → List Int → List Int → List Int → Int → Int → Int → List Int → List Int → List Int → Option (Bool)
 | 0, _, _, _, _, _, _, _, _, _, _, _, _, _, _, _, _, _, _, _, _, _, _, _, _, _, _, _ => none
 | k + 1, x2, x9, x86, x262000, x262001, x262002, x262003, x262004, x262005, x263000, x263001, x263002, x263003, x263004, x263005, x303000, x303001, x303002, x303003, x303004, x303005, x343000, x343001, x343002, x343003, x343004, x343005 => if x86 = true then (some false) else ((laws_markModel.f k x343000 x343001 x343002 x343003 x343004 x343005 1).bind fun bt379 => ((laws_heldModel.f k x343000 x343001 x343002 bt379.2.1 bt379.2.2.1 bt379.2.2.2 1).bind fun t383 => (if t383 < 0 then (some false) else (laws_FnExactMixModels.j4 k x2 x9 bt379.1 t383 x262000 x262001 x262002 x262003 x262004 x262005 x263000 x263001 x263002 x263003 x263004 x263005 x303000 x303001 x303002 x303003 x303004 x303005 x343000 x343001 x343002 bt379.2.1 bt379.2.2.1 bt379.2.2.2))))
def laws_FnExactMixModels.j4 : Nat → Int → Bool → Int → Int → Int → Int → Int → List Int → List Int → List Int → Int → Int → Int → List Int → List Int → List Int → Int → Int → Int → List Int → List Int → List Int → Int → Int → Int → List Int → List Int → List Int → Option (Bool)
 | 0, _, _, _, _, _, _, _, _, _, _, _, _, _, _, _, _, _, _, _, _, _, _, _, _, _, _, _, _ => none
 | k + 1, x2, x9, x15, x16, x262000, x262001, x262002, x262003, x262004, x262005, x263000, x263001, x263002, x263003, x263004, x263005, x303000, x303001, x303002, x303003, x303004, x303005, x343000, x343001, x343002, x343003, x343004, x343005 => if x16 = x15 then ((laws_toModel.f k x262000 x262001 x262002 x262003 x262004 x262005).bind fun bt384 => ((laws_toModel.f k x263000 x263001 x263002 x263003 x263004 x263005).bind fun bt396 => ((impl_MixModels.f k bt384.1 bt384.2.1 bt384.2.2.1 bt384.2.2.2.1 bt384.2.2.2.2.1 bt384.2.2.2.2.2 bt396.1 bt396.2.1 bt396.2.2.1 bt396.2.2.2.1 bt396.2.2.2.2.1 bt396.2.2.2.2.2 x2).bind fun bt408 => ((laws_eqModel.f k bt408.1 bt408.2.1 bt408.2.2.1 bt408.2.2.2.1 bt408.2.2.2.2.1 bt408.2.2.2.2.2.1 x303000 x303001 x303002 x303003 x303004 x303005).bind fun t422 => (if t422 = true then (laws_FnExactMixModels.j5 k x15 (bt408.2.2.2.2.2.2 != x9) x343000 x343001 x343002 x343003 x343004 x343005) else (laws_FnExactMixModels.j5 k x15 true x343000 x343001 x343002 x343003 x343004 x343005)))))) else (some false)
def laws_FnExactMixModels.j5 : Nat → Int → Bool → Int → Int → Int → List Int → List Int → List Int → Option (Bool)
 | 0, _, _, _, _, _, _, _, _ => none
 | k + 1, x15, x115, x343000, x343001, x343002, x343003, x343004, x343005 => if x115 = true then (some false) else ((laws_heldModel.f k x343000 x343001 x343002 x343003 x343004 x343005 1).bind fun t423 => (if t423 < 0 then (some false) else (if t423 = x15 then (some true) else (some false))))
end
def laws_FnExactMixModels.f (k : Nat) (a0_0 : Int) (a0_1 : Int) (a0_2 : Int) (l0_3 : List Int) (l0_4 : List Int) (l0_5 : List Int) (a1_0 : Int) (a1_1 : Int) (a1_2 : Int) (l1_3 : List Int) (l1_4 : List Int) (l1_5 : List Int) (a2 : Int) : Option (Bool) := (laws_szModel.f a0_0 a0_1 a0_2 l0_3 l0_4 l0_5 1048576).bind fun t263 => (if t263 < 0 then (some true) else ((laws_szModel.f a1_0 a1_1 a1_2 l1_3 l1_4 l1_5 t263).bind fun t264 => (if t264 < 0 then (some true) else ((laws_toModel.f k a0_0 a0_1 a0_2 l0_3 l0_4 l0_5).bind fun bt265 => ((laws_toModel.f k a1_0 a1_1 a1_2 l1_3 l1_4 l1_5).bind fun bt277 => ((spec_MixModels.f k bt265.1 bt265.2.1 bt265.2.2.1 bt265.2.2.2.1 bt265.2.2.2.2.1 bt265.2.2.2.2.2 bt277.1 bt277.2.1 bt277.2.2.1 bt277.2.2.2.1 bt277.2.2.2.2.1 bt277.2.2.2.2.2 a2).bind fun bt289 => ((laws_toModel.f k a0_0 a0_1 a0_2 l0_3 l0_4 l0_5).bind fun bt303 => ((laws_toModel.f k a1_0 a1_1 a1_2 l1_3 l1_4 l1_5).bind fun bt316 => ((impl_MixModels.f k bt303.1 bt303.2.1 bt303.2.2.1 bt303.2.2.2.1 bt303.2.2.2.2.1 bt303.2.2.2.2.2 bt316.1 bt316.2.1 bt316.2.2.1 bt316.2.2.2.1 bt316.2.2.2.2.1 bt316.2.2.2.2.2 a2).bind fun bt329 => ((laws_eqModel.f k bt329.1 bt329.2.1 bt329.2.2.1 bt329.2.2.2.1 bt329.2.2.2.2.1 bt329.2.2.2.2.2.1 bt289.1 bt289.2.1 bt289.2.2.1 bt289.2.2.2.1 bt289.2.2.2.2.1 bt289.2.2.2.2.2.1).bind fun t343 => (if t343 = true then (laws_FnExactMixModels.j0 k a2 bt289.2.2.2.2.2.2 bt329.2.2.2.2.2.2 (bt329.2.2.2.2.2.2 != bt289.2.2.2.2.2.2) a0_0 a0_1 a0_2 l0_3 l0_4 l0_5 a1_0 a1_1 a1_2 l1_3 l1_4 l1_5 bt289.1 bt289.2.1 bt289.2.2.1 bt289.2.2.2.1 bt289.2.2.2.2.1 bt289.2.2.2.2.2.1 bt303.1 bt303.2.1 bt303.2.2.1 bt303.2.2.2.1 bt303.2.2.2.2.1 bt303.2.2.2.2.2 bt316.1 bt316.2.1 bt316.2.2.1 bt316.2.2.2.1 bt316.2.2.2.2.1 bt316.2.2.2.2.2 bt329.1 bt329.2.1 bt329.2.2.1 bt329.2.2.2.1 bt329.2.2.2.2.1 bt329.2.2.2.2.2.1) else (laws_FnExactMixModels.j0 k a2 bt289.2.2.2.2.2.2 bt329.2.2.2.2.2.2 true a0_0 a0_1 a0_2 l0_3 l0_4 l0_5 a1_0 a1_1 a1_2 l1_3 l1_4 l1_5 bt289.1 bt289.2.1 bt289.2.2.1 bt289.2.2.2.1 bt289.2.2.2.2.1 bt289.2.2.2.2.2.1 bt303.1 bt303.2.1 bt303.2.2.1 bt303.2.2.2.1 bt303.2.2.2.2.1 bt303.2.2.2.2.2 bt316.1 bt316.2.1 bt316.2.2.1 bt316.2.2.2.1 bt316.2.2.2.2.1 bt316.2.2.2.2.2 bt329.1 bt329.2.1 bt329.2.2.1 bt329.2.2.2.1 bt329.2.2.2.2.1 bt329.2.2.2.2.2.1))))))))))))
def laws_FnExactMixModels.T8 : Bool × List (List Nat × List Nat) := (true, [([], []), ([0], [0]), ([], []), ([2, 1], [2]), ([], []), ([1, 3, 4, 3], [1, 3, 4]), ([5], [5]), ([6], [6]), ([6], [6]), ([], []), ([9, 7, 5, 0, 1, 2, 3, 4, 5, 6, 7, 9], [7, 9]), ([8, 10, 0, 1, 2, 3, 4, 5, 6, 7, 8, 9, 10], [8])])
def laws_FnExactMixModels.B8 : List Nat := [0, 1, 0, 7, 0, 31, 63, 127, 127, 0, 767, 2047]
theorem laws_FnExactMixModels.tab8 : rtab .any (opsOf Try.f6 8) = laws_FnExactMixModels.T8 := by kernel_rfl
theorem laws_FnExactMixModels.bits8 : waitsOk laws_FnExactMixModels.T8.2 laws_FnExactMixModels.B8 = true := by kernel_rfl
def laws_FnExactMixModels.T31 : Bool × List (List Nat × List Nat) := (true, [([], []), ([0], [0]), ([], []), ([2, 1], [2]), ([], []), ([1, 3, 4, 3], [1, 3, 4]), ([5], [5]), ([6], [6]), ([6], [6]), ([], []), ([9, 7, 5, 0, 1, 2, 3, 4, 5, 6, 7, 9], [7, 9]), ([8, 10, 0, 1, 2, 3, 4, 5, 6, 7, 8, 9, 10], [8])])
def laws_FnExactMixModels.B31 : List Nat := [0, 1, 0, 7, 0, 31, 63, 127, 127, 0, 767, 2047]
theorem laws_FnExactMixModels.tab31 : rtab .any (opsOf Try.f6 31) = laws_FnExactMixModels.T31 := by kernel_rfl
theorem laws_FnExactMixModels.bits31 : waitsOk laws_FnExactMixModels.T31.2 laws_FnExactMixModels.B31 = true := by kernel_rfl
set_option maxHeartbeats 8000000 in
set_option maxRecDepth 100000 in
theorem laws_FnExactMixModels.calls (k : Nat) (a0_0 : Int) (a0_1 : Int) (a0_2 : Int) (A0_3 : Option Addr) (c0_3 : Nat) (l0_3 : List Int) (A0_4 : Option Addr) (c0_4 : Nat) (l0_4 : List Int) (A0_5 : Option Addr) (c0_5 : Nat) (l0_5 : List Int) (a1_0 : Int) (a1_1 : Int) (a1_2 : Int) (A1_3 : Option Addr) (c1_3 : Nat) (l1_3 : List Int) (A1_4 : Option Addr) (c1_4 : Nat) (l1_4 : List Int) (A1_5 : Option Addr) (c1_5 : Nat) (l1_5 : List Int) (a2 : Int) (r : Bool) (w : World) (hr0_3 : Kd.C (Kd.int .i64) w A0_3 l0_3.length l0_3) (hc0_3 : l0_3.length ≤ c0_3) (hr0_4 : Kd.C (Kd.int .i64) w A0_4 l0_4.length l0_4) (hc0_4 : l0_4.length ≤ c0_4) (hr0_5 : Kd.C (Kd.int .i64) w A0_5 l0_5.length l0_5) (hc0_5 : l0_5.length ≤ c0_5) (hr1_3 : Kd.C (Kd.int .i64) w A1_3 l1_3.length l1_3) (hc1_3 : l1_3.length ≤ c1_3) (hr1_4 : Kd.C (Kd.int .i64) w A1_4 l1_4.length l1_4) (hc1_4 : l1_4.length ≤ c1_4) (hr1_5 : Kd.C (Kd.int .i64) w A1_5 l1_5.length l1_5) (hc1_5 : l1_5.length ≤ c1_5) (h : laws_FnExactMixModels.f k a0_0 a0_1 a0_2 l0_3 l0_4 l0_5 a1_0 a1_1 a1_2 l1_3 l1_4 l1_5 a2 = some r) :
  Calls Try.prog 6 #[.agg #[.int .i64 a0_0, .int .i64 a0_1, .int .i64 a0_2, .slice A0_3 l0_3.length c0_3, .slice A0_4 l0_4.length c0_4, .slice A0_5 l0_5.length c0_5], .agg #[.int .i64 a1_0, .int .i64 a1_1, .int .i64 a1_2, .slice A1_3 l1_3.length c1_3, .slice A1_4 l1_4.length c1_4, .slice A1_5 l1_5.length c1_5], .int .i64 a2] w fun e w' => e = .returned (.bool r) ∧ Below w.heap.size w w' := by
 have hu26 := Try.underlying26
 have hu41 := Try.underlying41
 have HR0_3 := Aside0.mk hr0_3
 have HC0_3 := Aside0.mk hc0_3
 clear hr0_3 hc0_3
 have HR0_4 := Aside0.mk hr0_4
 have HC0_4 := Aside0.mk hc0_4
 clear hr0_4 hc0_4
 have HR0_5 := Aside0.mk hr0_5
 have HC0_5 := Aside0.mk hc0_5
 clear hr0_5 hc0_5
 have HR1_3 := Aside0.mk hr1_3
 have HC1_3 := Aside0.mk hc1_3
 clear hr1_3 hc1_3
 have HR1_4 := Aside0.mk hr1_4
 have HC1_4 := Aside0.mk hc1_4
 clear hr1_4 hc1_4
 have HR1_5 := Aside0.mk hr1_5
 have HC1_5 := Aside0.mk hc1_5
 clear hr1_5 hc1_5
 have HB := Aside0.mk (Below.refl w.heap.size w)
 have H : ((laws_szModel.f a0_0 a0_1 a0_2 l0_3 l0_4 l0_5 1048576).bind fun t263 => (if t263 < 0 then (some true) else ((laws_szModel.f a1_0 a1_1 a1_2 l1_3 l1_4 l1_5 t263).bind fun t264 => (if t264 < 0 then (some true) else ((laws_toModel.f k a0_0 a0_1 a0_2 l0_3 l0_4 l0_5).bind fun bt265 => ((laws_toModel.f k a1_0 a1_1 a1_2 l1_3 l1_4 l1_5).bind fun bt277 => ((spec_MixModels.f k bt265.1 bt265.2.1 bt265.2.2.1 bt265.2.2.2.1 bt265.2.2.2.2.1 bt265.2.2.2.2.2 bt277.1 bt277.2.1 bt277.2.2.1 bt277.2.2.2.1 bt277.2.2.2.2.1 bt277.2.2.2.2.2 a2).bind fun bt289 => ((laws_toModel.f k a0_0 a0_1 a0_2 l0_3 l0_4 l0_5).bind fun bt303 => ((laws_toModel.f k a1_0 a1_1 a1_2 l1_3 l1_4 l1_5).bind fun bt316 => ((impl_MixModels.f k bt303.1 bt303.2.1 bt303.2.2.1 bt303.2.2.2.1 bt303.2.2.2.2.1 bt303.2.2.2.2.2 bt316.1 bt316.2.1 bt316.2.2.1 bt316.2.2.2.1 bt316.2.2.2.2.1 bt316.2.2.2.2.2 a2).bind fun bt329 => ((laws_eqModel.f k bt329.1 bt329.2.1 bt329.2.2.1 bt329.2.2.2.1 bt329.2.2.2.2.1 bt329.2.2.2.2.2.1 bt289.1 bt289.2.1 bt289.2.2.1 bt289.2.2.2.1 bt289.2.2.2.2.1 bt289.2.2.2.2.2.1).bind fun t343 => (if t343 = true then (laws_FnExactMixModels.j0 k a2 bt289.2.2.2.2.2.2 bt329.2.2.2.2.2.2 (bt329.2.2.2.2.2.2 != bt289.2.2.2.2.2.2) a0_0 a0_1 a0_2 l0_3 l0_4 l0_5 a1_0 a1_1 a1_2 l1_3 l1_4 l1_5 bt289.1 bt289.2.1 bt289.2.2.1 bt289.2.2.2.1 bt289.2.2.2.2.1 bt289.2.2.2.2.2.1 bt303.1 bt303.2.1 bt303.2.2.1 bt303.2.2.2.1 bt303.2.2.2.2.1 bt303.2.2.2.2.2 bt316.1 bt316.2.1 bt316.2.2.1 bt316.2.2.2.1 bt316.2.2.2.2.1 bt316.2.2.2.2.2 bt329.1 bt329.2.1 bt329.2.2.1 bt329.2.2.2.1 bt329.2.2.2.2.1 bt329.2.2.2.2.2.1) else (laws_FnExactMixModels.j0 k a2 bt289.2.2.2.2.2.2 bt329.2.2.2.2.2.2 true a0_0 a0_1 a0_2 l0_3 l0_4 l0_5 a1_0 a1_1 a1_2 l1_3 l1_4 l1_5 bt289.1 bt289.2.1 bt289.2.2.1 bt289.2.2.2.1 bt289.2.2.2.2.1 bt289.2.2.2.2.2.1 bt303.1 bt303.2.1 bt303.2.2.1 bt303.2.2.2.1 bt303.2.2.2.2.1 bt303.2.2.2.2.2 bt316.1 bt316.2.1 bt316.2.2.1 bt316.2.2.2.1 bt316.2.2.2.2.1 bt316.2.2.2.2.2 bt329.1 bt329.2.1 bt329.2.2.1 bt329.2.2.2.1 bt329.2.2.2.2.1 bt329.2.2.2.2.2.1))))))))))))) = some r := h
 clear h
 replace H := Option.bind_eq_some_iff.mp H
 obtain ⟨t263, A40, H⟩ := H
 have A4 := Aside0.mk A40
 clear A40
 by_cases c5 : t263 < 0
 ·rw [if_pos c5] at H
  have c5b0 : decide (t263 < 0) = true := decide_eq_true c5
  clear c5
  obtain rfl := Option.some.inj H
  go_enter Try.func6, Try.ntmps6
  go_wp2_with (first | ((with_reducible refine gate_dst (N := 3) rfl ?_); refine box_event ?hg (N := 3) ?hd (cs := #[.int .i64 a0_0, .int .i64 a0_1, .int .i64 a0_2, .slice A0_3 l0_3.length c0_3, .slice A0_4 l0_4.length c0_4, .slice A0_5 l0_5.length c0_5]) (t := 26) ?hr ?_; (case hd => rfl); (case hg => rfl); (case hr => first | (go_simp; done) | (go_simp; rfl)); intro gb261 hg w6 hbox hb; have BK261 := Aside0.mk (hbox); have GW261 := Aside0.mk ((by rw [hg]; exact (below_size (be0x9 HB.out)) : w.heap.size ≤ gb261)); have GE261 := Aside0.mk ((by rw [hg]; exact (below_size (be0x9 HB.out)) : w.heap.size ≤ gb261)); replace HB := Aside0.mk (below_step (be0x9 HB.out) hb); clear hb hbox hg) | ((with_reducible refine gate_dst (N := 4) rfl ?_); refine box_event ?hg (N := 4) ?hd (cs := #[.int .i64 a1_0, .int .i64 a1_1, .int .i64 a1_2, .slice A1_3 l1_3.length c1_3, .slice A1_4 l1_4.length c1_4, .slice A1_5 l1_5.length c1_5]) (t := 26) ?hr ?_; (case hd => rfl); (case hg => rfl); (case hr => first | (go_simp; done) | (go_simp; rfl)); intro gb262 hg w7 hbox hb; have BK262 := Aside0.mk (hbox); have GW262 := Aside0.mk ((by rw [hg]; exact (below_size (be1x9 HB.out GE261.out)) : w.heap.size ≤ gb262)); have GE262 := Aside0.mk ((by rw [hg]; exact (below_size (be1x9 HB.out GE261.out)) : w.heap.size ≤ gb262)); replace HB := Aside0.mk (below_step (be1x9 HB.out GE261.out) hb); have NB261_262 := Aside0.mk ((by rw [hg]; exact Nat.ne_of_lt (blk_lt (rBx9 BK261.out)) : gb261 ≠ gb262)); have NB262_261 := Aside0.mk ((by rw [hg]; exact Nat.ne_of_gt (blk_lt (rBx9 BK261.out)) : gb262 ≠ gb261)); replace BK261 := Aside0.mk (blk_below (rBx9 BK261.out) hb); clear hb hbox hg; have hnb8 := NB261_262.out; have hnc8 := NB262_261.out; obtain ⟨hcz9_0, hcz9_1, hcz9_2, hcz9_3, hcz9_4, hcz9_5, hfz9_0, hfz9_1, hfz9_2, hfz9_3, hfz9_4, hfz9_5⟩ := cf6x9 BK261.out) | ((with_reducible refine gate_callee (f := 15) rfl ?_); refine goesL_ (some 21) rfl rfl Try.func15 (by kernel_rfl) rfl #[.agg #[.int .i64 a0_0, .int .i64 a0_1, .int .i64 a0_2, .slice A0_3 l0_3.length c0_3, .slice A0_4 l0_4.length c0_4, .slice A0_5 l0_5.length c0_5], .int .i64 1048576] rfl mpx9 ?_; (with_reducible refine (laws_szModel.calls a0_0 a0_1 a0_2 _ _ l0_3 _ _ l0_4 _ _ l0_5 1048576 t263 _ ?side1 ?side2 ?side3 ?side4 ?side5 ?side6 A4.out).mono ?_); (case side1 => exact rCx9 (Kd.C_below HR0_3.out HB.out)); (case side2 => exact HC0_3.out); (case side3 => exact rCx9 (Kd.C_below HR0_4.out HB.out)); (case side4 => exact HC0_4.out); (case side5 => exact rCx9 (Kd.C_below HR0_5.out HB.out)); (case side6 => exact HC0_5.out); rintro e w10 ⟨rfl, hb⟩; refine ⟨_, rfl, ?_⟩; replace BK261 := Aside0.mk (blk_below (rBx9 BK261.out) hb); replace BK262 := Aside0.mk (blk_below (rBx9 BK262.out) hb); replace HB := Aside0.mk (below_step (be2x9 HB.out GE261.out GE262.out) hb); (try clear hb); (try clear hb2); (try clear hk); (try clear hi)))
  go_ret
  exact ⟨by first | rfl | (simp [errW_none, errW_some] <;> rfl) | (simp [*, errW_none, errW_some] <;> rfl), be2x9 HB.out GE261.out GE262.out⟩
 ·rw [if_neg c5] at H
  have c5b0 : decide (t263 < 0) = false := decide_eq_false c5
  clear c5
  replace H := Option.bind_eq_some_iff.mp H
  obtain ⟨t264, A110, H⟩ := H
  have A11 := Aside0.mk A110
  clear A110
  by_cases c12 : t264 < 0
  ·rw [if_pos c12] at H
   have c12b0 : decide (t264 < 0) = true := decide_eq_true c12
   clear c12
   obtain rfl := Option.some.inj H
   go_enter Try.func6, Try.ntmps6
   go_wp2_with (first | ((with_reducible refine gate_dst (N := 3) rfl ?_); refine box_event ?hg (N := 3) ?hd (cs := #[.int .i64 a0_0, .int .i64 a0_1, .int .i64 a0_2, .slice A0_3 l0_3.length c0_3, .slice A0_4 l0_4.length c0_4, .slice A0_5 l0_5.length c0_5]) (t := 26) ?hr ?_; (case hd => rfl); (case hg => rfl); (case hr => first | (go_simp; done) | (go_simp; rfl)); intro gb261 hg w13 hbox hb; have BK261 := Aside0.mk (hbox); have GW261 := Aside0.mk ((by rw [hg]; exact (below_size (be0x9 HB.out)) : w.heap.size ≤ gb261)); have GE261 := Aside0.mk ((by rw [hg]; exact (below_size (be0x9 HB.out)) : w.heap.size ≤ gb261)); replace HB := Aside0.mk (below_step (be0x9 HB.out) hb); clear hb hbox hg) | ((with_reducible refine gate_dst (N := 4) rfl ?_); refine box_event ?hg (N := 4) ?hd (cs := #[.int .i64 a1_0, .int .i64 a1_1, .int .i64 a1_2, .slice A1_3 l1_3.length c1_3, .slice A1_4 l1_4.length c1_4, .slice A1_5 l1_5.length c1_5]) (t := 26) ?hr ?_; (case hd => rfl); (case hg => rfl); (case hr => first | (go_simp; done) | (go_simp; rfl)); intro gb262 hg w14 hbox hb; have BK262 := Aside0.mk (hbox); have GW262 := Aside0.mk ((by rw [hg]; exact (below_size (be1x9 HB.out GE261.out)) : w.heap.size ≤ gb262)); have GE262 := Aside0.mk ((by rw [hg]; exact (below_size (be1x9 HB.out GE261.out)) : w.heap.size ≤ gb262)); replace HB := Aside0.mk (below_step (be1x9 HB.out GE261.out) hb); have NB261_262 := Aside0.mk ((by rw [hg]; exact Nat.ne_of_lt (blk_lt (rBx9 BK261.out)) : gb261 ≠ gb262)); have NB262_261 := Aside0.mk ((by rw [hg]; exact Nat.ne_of_gt (blk_lt (rBx9 BK261.out)) : gb262 ≠ gb261)); replace BK261 := Aside0.mk (blk_below (rBx9 BK261.out) hb); clear hb hbox hg; have hnb15 := NB261_262.out; have hnc15 := NB262_261.out; obtain ⟨hcz16_0, hcz16_1, hcz16_2, hcz16_3, hcz16_4, hcz16_5, hfz16_0, hfz16_1, hfz16_2, hfz16_3, hfz16_4, hfz16_5⟩ := cf6x9 BK261.out) | ((with_reducible refine gate_callee (f := 15) rfl ?_); refine goesL_ (some 21) rfl rfl Try.func15 (by kernel_rfl) rfl #[.agg #[.int .i64 a0_0, .int .i64 a0_1, .int .i64 a0_2, .slice A0_3 l0_3.length c0_3, .slice A0_4 l0_4.length c0_4, .slice A0_5 l0_5.length c0_5], .int .i64 1048576] rfl mpx9 ?_; (with_reducible refine (laws_szModel.calls a0_0 a0_1 a0_2 _ _ l0_3 _ _ l0_4 _ _ l0_5 1048576 t263 _ ?side1 ?side2 ?side3 ?side4 ?side5 ?side6 A4.out).mono ?_); (case side1 => exact rCx9 (Kd.C_below HR0_3.out HB.out)); (case side2 => exact HC0_3.out); (case side3 => exact rCx9 (Kd.C_below HR0_4.out HB.out)); (case side4 => exact HC0_4.out); (case side5 => exact rCx9 (Kd.C_below HR0_5.out HB.out)); (case side6 => exact HC0_5.out); rintro e w17 ⟨rfl, hb⟩; refine ⟨_, rfl, ?_⟩; replace BK261 := Aside0.mk (blk_below (rBx9 BK261.out) hb); replace BK262 := Aside0.mk (blk_below (rBx9 BK262.out) hb); replace HB := Aside0.mk (below_step (be2x9 HB.out GE261.out GE262.out) hb); (try clear hb); (try clear hb2); (try clear hk); (try clear hi); obtain ⟨hcz18_0, hcz18_1, hcz18_2, hcz18_3, hcz18_4, hcz18_5, hfz18_0, hfz18_1, hfz18_2, hfz18_3, hfz18_4, hfz18_5⟩ := cf6x9 BK262.out) | ((with_reducible refine gate_callee (f := 15) rfl ?_); refine goesL_ (some 26) rfl rfl Try.func15 (by kernel_rfl) rfl #[.agg #[.int .i64 a1_0, .int .i64 a1_1, .int .i64 a1_2, .slice A1_3 l1_3.length c1_3, .slice A1_4 l1_4.length c1_4, .slice A1_5 l1_5.length c1_5], .int .i64 t263] rfl mpx9 ?_; (with_reducible refine (laws_szModel.calls a1_0 a1_1 a1_2 _ _ l1_3 _ _ l1_4 _ _ l1_5 t263 t264 _ ?side1 ?side2 ?side3 ?side4 ?side5 ?side6 A11.out).mono ?_); (case side1 => exact rCx9 (Kd.C_below HR1_3.out HB.out)); (case side2 => exact HC1_3.out); (case side3 => exact rCx9 (Kd.C_below HR1_4.out HB.out)); (case side4 => exact HC1_4.out); (case side5 => exact rCx9 (Kd.C_below HR1_5.out HB.out)); (case side6 => exact HC1_5.out); rintro e w19 ⟨rfl, hb⟩; refine ⟨_, rfl, ?_⟩; replace BK261 := Aside0.mk (blk_below (rBx9 BK261.out) hb); replace BK262 := Aside0.mk (blk_below (rBx9 BK262.out) hb); replace HB := Aside0.mk (below_step (be2x9 HB.out GE261.out GE262.out) hb); (try clear hb); (try clear hb2); (try clear hk); (try clear hi)))
   go_ret
   exact ⟨by first | rfl | (simp [errW_none, errW_some] <;> rfl) | (simp [*, errW_none, errW_some] <;> rfl), be2x9 HB.out GE261.out GE262.out⟩
  ·rw [if_neg c12] at H
   have c12b0 : decide (t264 < 0) = false := decide_eq_false c12
   clear c12
   replace H := Option.bind_eq_some_iff.mp H
   obtain ⟨⟨t265, t266, t267, t268, t271, t274⟩, A200, H⟩ := H
   (try dsimp only at H)
   have A20 := Aside0.mk A200
   clear A200
   replace H := Option.bind_eq_some_iff.mp H
   obtain ⟨⟨t277, t278, t279, t280, t283, t286⟩, A210, H⟩ := H
   (try dsimp only at H)
   have A21 := Aside0.mk A210
   clear A210
   replace H := Option.bind_eq_some_iff.mp H
   obtain ⟨⟨t289, t290, t291, t292, t295, t298, t301⟩, A220, H⟩ := H
   (try dsimp only at H)
   have A22 := Aside0.mk A220
   clear A220
   replace H := Option.bind_eq_some_iff.mp H
   obtain ⟨⟨t303, t304, t305, t306, t309, t312⟩, A230, H⟩ := H
   (try dsimp only at H)
   have A23 := Aside0.mk A230
   clear A230
   replace H := Option.bind_eq_some_iff.mp H
   obtain ⟨⟨t316, t317, t318, t319, t322, t325⟩, A240, H⟩ := H
   (try dsimp only at H)
   have A24 := Aside0.mk A240
   clear A240
   replace H := Option.bind_eq_some_iff.mp H
   obtain ⟨⟨t329, t330, t331, t332, t335, t338, t341⟩, A250, H⟩ := H
   (try dsimp only at H)
   have A25 := Aside0.mk A250
   clear A250
   have HC26 := Aside0.mk H
   clear H
   go_enter Try.func6, Try.ntmps6
   try go_wp2_with (first | ((with_reducible refine gate_dst (N := 3) rfl ?_); refine box_event ?hg (N := 3) ?hd (cs := #[.int .i64 a0_0, .int .i64 a0_1, .int .i64 a0_2, .slice A0_3 l0_3.length c0_3, .slice A0_4 l0_4.length c0_4, .slice A0_5 l0_5.length c0_5]) (t := 26) ?hr ?_; (case hd => rfl); (case hg => rfl); (case hr => first | (go_simp; done) | (go_simp; rfl)); intro gb261 hg w27 hbox hb; have BK261 := Aside0.mk (hbox); have GW261 := Aside0.mk ((by rw [hg]; exact (below_size (be0x9 HB.out)) : w.heap.size ≤ gb261)); have GE261 := Aside0.mk ((by rw [hg]; exact (below_size (be0x9 HB.out)) : w.heap.size ≤ gb261)); replace HB := Aside0.mk (below_step (be0x9 HB.out) hb); clear hb hbox hg) | ((with_reducible refine gate_dst (N := 4) rfl ?_); refine box_event ?hg (N := 4) ?hd (cs := #[.int .i64 a1_0, .int .i64 a1_1, .int .i64 a1_2, .slice A1_3 l1_3.length c1_3, .slice A1_4 l1_4.length c1_4, .slice A1_5 l1_5.length c1_5]) (t := 26) ?hr ?_; (case hd => rfl); (case hg => rfl); (case hr => first | (go_simp; done) | (go_simp; rfl)); intro gb262 hg w28 hbox hb; have BK262 := Aside0.mk (hbox); have GW262 := Aside0.mk ((by rw [hg]; exact (below_size (be1x9 HB.out GE261.out)) : w.heap.size ≤ gb262)); have GE262 := Aside0.mk ((by rw [hg]; exact (below_size (be1x9 HB.out GE261.out)) : w.heap.size ≤ gb262)); replace HB := Aside0.mk (below_step (be1x9 HB.out GE261.out) hb); have NB261_262 := Aside0.mk ((by rw [hg]; exact Nat.ne_of_lt (blk_lt (rBx9 BK261.out)) : gb261 ≠ gb262)); have NB262_261 := Aside0.mk ((by rw [hg]; exact Nat.ne_of_gt (blk_lt (rBx9 BK261.out)) : gb262 ≠ gb261)); replace BK261 := Aside0.mk (blk_below (rBx9 BK261.out) hb); clear hb hbox hg; have hnb29 := NB261_262.out; have hnc29 := NB262_261.out; obtain ⟨hcz30_0, hcz30_1, hcz30_2, hcz30_3, hcz30_4, hcz30_5, hfz30_0, hfz30_1, hfz30_2, hfz30_3, hfz30_4, hfz30_5⟩ := cf6x9 BK261.out) | ((with_reducible refine gate_callee (f := 15) rfl ?_); refine goesL_ (some 21) rfl rfl Try.func15 (by kernel_rfl) rfl #[.agg #[.int .i64 a0_0, .int .i64 a0_1, .int .i64 a0_2, .slice A0_3 l0_3.length c0_3, .slice A0_4 l0_4.length c0_4, .slice A0_5 l0_5.length c0_5], .int .i64 1048576] rfl mpx9 ?_; (with_reducible refine (laws_szModel.calls a0_0 a0_1 a0_2 _ _ l0_3 _ _ l0_4 _ _ l0_5 1048576 t263 _ ?side1 ?side2 ?side3 ?side4 ?side5 ?side6 A4.out).mono ?_); (case side1 => exact rCx9 (Kd.C_below HR0_3.out HB.out)); (case side2 => exact HC0_3.out); (case side3 => exact rCx9 (Kd.C_below HR0_4.out HB.out)); (case side4 => exact HC0_4.out); (case side5 => exact rCx9 (Kd.C_below HR0_5.out HB.out)); (case side6 => exact HC0_5.out); rintro e w31 ⟨rfl, hb⟩; refine ⟨_, rfl, ?_⟩; replace BK261 := Aside0.mk (blk_below (rBx9 BK261.out) hb); replace BK262 := Aside0.mk (blk_below (rBx9 BK262.out) hb); replace HB := Aside0.mk (below_step (be2x9 HB.out GE261.out GE262.out) hb); (try clear hb); (try clear hb2); (try clear hk); (try clear hi); obtain ⟨hcz32_0, hcz32_1, hcz32_2, hcz32_3, hcz32_4, hcz32_5, hfz32_0, hfz32_1, hfz32_2, hfz32_3, hfz32_4, hfz32_5⟩ := cf6x9 BK262.out) | ((with_reducible refine gate_callee (f := 15) rfl ?_); refine goesL_ (some 26) rfl rfl Try.func15 (by kernel_rfl) rfl #[.agg #[.int .i64 a1_0, .int .i64 a1_1, .int .i64 a1_2, .slice A1_3 l1_3.length c1_3, .slice A1_4 l1_4.length c1_4, .slice A1_5 l1_5.length c1_5], .int .i64 t263] rfl mpx9 ?_; (with_reducible refine (laws_szModel.calls a1_0 a1_1 a1_2 _ _ l1_3 _ _ l1_4 _ _ l1_5 t263 t264 _ ?side1 ?side2 ?side3 ?side4 ?side5 ?side6 A11.out).mono ?_); (case side1 => exact rCx9 (Kd.C_below HR1_3.out HB.out)); (case side2 => exact HC1_3.out); (case side3 => exact rCx9 (Kd.C_below HR1_4.out HB.out)); (case side4 => exact HC1_4.out); (case side5 => exact rCx9 (Kd.C_below HR1_5.out HB.out)); (case side6 => exact HC1_5.out); rintro e w33 ⟨rfl, hb⟩; refine ⟨_, rfl, ?_⟩; replace BK261 := Aside0.mk (blk_below (rBx9 BK261.out) hb); replace BK262 := Aside0.mk (blk_below (rBx9 BK262.out) hb); replace HB := Aside0.mk (below_step (be2x9 HB.out GE261.out GE262.out) hb); (try clear hb); (try clear hb2); (try clear hk); (try clear hi)))
   replace BK261 := Aside0.mk (blk_drew BK261.out)
   replace BK262 := Aside0.mk (blk_drew BK262.out)
   replace HB := Aside0.mk (below_drew1 HB.out)
   refine start_ (n := 12) (S := fun w' => w'.cell? ⟨gb261, 0, none⟩ = some (.int .i64 a0_0) ∧ w'.cell? ⟨gb261, 1, none⟩ = some (.int .i64 a0_1) ∧ w'.cell? ⟨gb261, 2, none⟩ = some (.int .i64 a0_2) ∧ w'.cell? ⟨gb261, 3, none⟩ = some (.slice A0_3 l0_3.length c0_3) ∧ w'.cell? ⟨gb261, 4, none⟩ = some (.slice A0_4 l0_4.length c0_4) ∧ w'.cell? ⟨gb261, 5, none⟩ = some (.slice A0_5 l0_5.length c0_5) ∧ w'.cell? ⟨gb262, 0, none⟩ = some (.int .i64 a1_0) ∧ w'.cell? ⟨gb262, 1, none⟩ = some (.int .i64 a1_1) ∧ w'.cell? ⟨gb262, 2, none⟩ = some (.int .i64 a1_2) ∧ w'.cell? ⟨gb262, 3, none⟩ = some (.slice A1_3 l1_3.length c1_3) ∧ w'.cell? ⟨gb262, 4, none⟩ = some (.slice A1_4 l1_4.length c1_4) ∧ w'.cell? ⟨gb262, 5, none⟩ = some (.slice A1_5 l1_5.length c1_5)) (ds := []) #[false, false, false, false, false, false, false, false, false, false, false, false] (by kernel_rfl) rfl rfl (ca6x9 BK261.out (cc6x9 BK262.out)) (fun hHeld => ?_); refine with_tabW laws_FnExactMixModels.tab8 laws_FnExactMixModels.bits8 (fun HT_ HW_ => ?_)
   generalize w33.drew = w34 at BK261 BK262 HB hHeld ⊢
   refine pure_ (i := 4) (N := some 34) (v := ?_) (a' := ?_) #[false, false, false, false, true, false, false, false, false, false, false, false] rfl rfl (any_of HT_.out (by kernel_rfl)) (fun _ _ _ h => h) (Or.inl ⟨by rfl, ?_⟩) ?_ ?_
   rotate_left
   ·intro w'
    go_simp
    with_reducible rfl
   rotate_left
   ·simp only [Act.put, List.setIfInBounds_toArray, List.set_cons_zero, List.set_cons_succ, i64_w, i32_w]
    rfl
   refine take_ (i := 0) (N := some 30) (v := ?_) (a' := ?_) #[true, false, false, false, true, false, false, false, false, false, false, false] rfl rfl (take_ofW HT_.out HW_.out (by kernel_rfl)) (fun _ _ _ h => h) (Or.inl ⟨by rfl, ?_⟩) hHeld ?_ ?_
   rotate_left
   ·rintro w' ⟨s0, s1, s2, s3, s4, s5, s6, s7, s8, s9, s10, s11⟩
    go_simp
    with_reducible rfl
   rotate_left
   ·simp only [Act.put, List.setIfInBounds_toArray, List.set_cons_zero, List.set_cons_succ, i64_w, i32_w]
    rfl
   refine take_ (i := 2) (N := some 32) (v := ?_) (a' := ?_) #[true, false, true, false, true, false, false, false, false, false, false, false] rfl rfl (take_ofW HT_.out HW_.out (by kernel_rfl)) (fun _ _ _ h => h) (Or.inl ⟨by rfl, ?_⟩) hHeld ?_ ?_
   rotate_left
   ·rintro w' ⟨s0, s1, s2, s3, s4, s5, s6, s7, s8, s9, s10, s11⟩
    go_simp
    with_reducible rfl
   rotate_left
   ·simp only [Act.put, List.setIfInBounds_toArray, List.set_cons_zero, List.set_cons_succ, i64_w, i32_w]
    rfl
   refine join_ (σ := Value × Value × Value × Value × Value × Value × Value × Value × Value × Nat) 2 #[true, true, true, true, true, true, true, true, true, true, false, false] (fun s_ => [(31, .agg #[.int .i64 t265, .int .i64 t266, .int .i64 t267, s_.1, s_.2.1, s_.2.2.1]), (33, .agg #[.int .i64 t277, .int .i64 t278, .int .i64 t279, s_.2.2.2.1, s_.2.2.2.2.1, s_.2.2.2.2.2.1]), (35, .tuple #[.agg #[.int .i64 t289, .int .i64 t290, .int .i64 t291, s_.2.2.2.2.2.2.1, s_.2.2.2.2.2.2.2.1, s_.2.2.2.2.2.2.2.2.1], .bool t301]), (8, .pointer (some ⟨s_.2.2.2.2.2.2.2.2.2, 0, none⟩)), (29, .tuple #[.agg #[.int .i64 t289, .int .i64 t290, .int .i64 t291, s_.2.2.2.2.2.2.1, s_.2.2.2.2.2.2.2.1, s_.2.2.2.2.2.2.2.2.1], .bool t301]), (36, .agg #[.int .i64 t289, .int .i64 t290, .int .i64 t291, s_.2.2.2.2.2.2.1, s_.2.2.2.2.2.2.2.1, s_.2.2.2.2.2.2.2.2.1]), (37, .bool t301)]) (fun s_ w' => (w'.cell? ⟨gb261, 0, none⟩ = some (.int .i64 a0_0) ∧ w'.cell? ⟨gb261, 1, none⟩ = some (.int .i64 a0_1) ∧ w'.cell? ⟨gb261, 2, none⟩ = some (.int .i64 a0_2) ∧ w'.cell? ⟨gb261, 3, none⟩ = some (.slice A0_3 l0_3.length c0_3) ∧ w'.cell? ⟨gb261, 4, none⟩ = some (.slice A0_4 l0_4.length c0_4) ∧ w'.cell? ⟨gb261, 5, none⟩ = some (.slice A0_5 l0_5.length c0_5) ∧ w'.cell? ⟨gb262, 0, none⟩ = some (.int .i64 a1_0) ∧ w'.cell? ⟨gb262, 1, none⟩ = some (.int .i64 a1_1) ∧ w'.cell? ⟨gb262, 2, none⟩ = some (.int .i64 a1_2) ∧ w'.cell? ⟨gb262, 3, none⟩ = some (.slice A1_3 l1_3.length c1_3) ∧ w'.cell? ⟨gb262, 4, none⟩ = some (.slice A1_4 l1_4.length c1_4) ∧ w'.cell? ⟨gb262, 5, none⟩ = some (.slice A1_5 l1_5.length c1_5)) ∧ (Kd.R (Kd.int .i64) 3 w' w.heap.size (fun k_ => some k_ ≠ (s_.2.1 : Value).ownBlock ∧ some k_ ≠ (s_.2.2.1 : Value).ownBlock ∧ some k_ ≠ (s_.2.2.2.1 : Value).ownBlock ∧ some k_ ≠ (s_.2.2.2.2.1 : Value).ownBlock ∧ some k_ ≠ (s_.2.2.2.2.2.1 : Value).ownBlock ∧ some k_ ≠ (s_.2.2.2.2.2.2.1 : Value).ownBlock ∧ some k_ ≠ (s_.2.2.2.2.2.2.2.1 : Value).ownBlock ∧ some k_ ≠ (s_.2.2.2.2.2.2.2.2.1 : Value).ownBlock) s_.1 t268) ∧ (Kd.R (Kd.int .i64) 3 w' w.heap.size (fun k_ => some k_ ≠ (s_.1 : Value).ownBlock ∧ some k_ ≠ (s_.2.2.1 : Value).ownBlock ∧ some k_ ≠ (s_.2.2.2.1 : Value).ownBlock ∧ some k_ ≠ (s_.2.2.2.2.1 : Value).ownBlock ∧ some k_ ≠ (s_.2.2.2.2.2.1 : Value).ownBlock ∧ some k_ ≠ (s_.2.2.2.2.2.2.1 : Value).ownBlock ∧ some k_ ≠ (s_.2.2.2.2.2.2.2.1 : Value).ownBlock ∧ some k_ ≠ (s_.2.2.2.2.2.2.2.2.1 : Value).ownBlock) s_.2.1 t271) ∧ (Kd.R (Kd.int .i64) 3 w' w.heap.size (fun k_ => some k_ ≠ (s_.1 : Value).ownBlock ∧ some k_ ≠ (s_.2.1 : Value).ownBlock ∧ some k_ ≠ (s_.2.2.2.1 : Value).ownBlock ∧ some k_ ≠ (s_.2.2.2.2.1 : Value).ownBlock ∧ some k_ ≠ (s_.2.2.2.2.2.1 : Value).ownBlock ∧ some k_ ≠ (s_.2.2.2.2.2.2.1 : Value).ownBlock ∧ some k_ ≠ (s_.2.2.2.2.2.2.2.1 : Value).ownBlock ∧ some k_ ≠ (s_.2.2.2.2.2.2.2.2.1 : Value).ownBlock) s_.2.2.1 t274) ∧ (Kd.R (Kd.int .i64) 3 w' w.heap.size (fun k_ => some k_ ≠ (s_.1 : Value).ownBlock ∧ some k_ ≠ (s_.2.1 : Value).ownBlock ∧ some k_ ≠ (s_.2.2.1 : Value).ownBlock ∧ some k_ ≠ (s_.2.2.2.2.1 : Value).ownBlock ∧ some k_ ≠ (s_.2.2.2.2.2.1 : Value).ownBlock ∧ some k_ ≠ (s_.2.2.2.2.2.2.1 : Value).ownBlock ∧ some k_ ≠ (s_.2.2.2.2.2.2.2.1 : Value).ownBlock ∧ some k_ ≠ (s_.2.2.2.2.2.2.2.2.1 : Value).ownBlock) s_.2.2.2.1 t280) ∧ (Kd.R (Kd.int .i64) 3 w' w.heap.size (fun k_ => some k_ ≠ (s_.1 : Value).ownBlock ∧ some k_ ≠ (s_.2.1 : Value).ownBlock ∧ some k_ ≠ (s_.2.2.1 : Value).ownBlock ∧ some k_ ≠ (s_.2.2.2.1 : Value).ownBlock ∧ some k_ ≠ (s_.2.2.2.2.2.1 : Value).ownBlock ∧ some k_ ≠ (s_.2.2.2.2.2.2.1 : Value).ownBlock ∧ some k_ ≠ (s_.2.2.2.2.2.2.2.1 : Value).ownBlock ∧ some k_ ≠ (s_.2.2.2.2.2.2.2.2.1 : Value).ownBlock) s_.2.2.2.2.1 t283) ∧ (Kd.R (Kd.int .i64) 3 w' w.heap.size (fun k_ => some k_ ≠ (s_.1 : Value).ownBlock ∧ some k_ ≠ (s_.2.1 : Value).ownBlock ∧ some k_ ≠ (s_.2.2.1 : Value).ownBlock ∧ some k_ ≠ (s_.2.2.2.1 : Value).ownBlock ∧ some k_ ≠ (s_.2.2.2.2.1 : Value).ownBlock ∧ some k_ ≠ (s_.2.2.2.2.2.2.1 : Value).ownBlock ∧ some k_ ≠ (s_.2.2.2.2.2.2.2.1 : Value).ownBlock ∧ some k_ ≠ (s_.2.2.2.2.2.2.2.2.1 : Value).ownBlock) s_.2.2.2.2.2.1 t286) ∧ (Kd.R (Kd.int .i64) 3 w' w.heap.size (fun k_ => some k_ ≠ (s_.1 : Value).ownBlock ∧ some k_ ≠ (s_.2.1 : Value).ownBlock ∧ some k_ ≠ (s_.2.2.1 : Value).ownBlock ∧ some k_ ≠ (s_.2.2.2.1 : Value).ownBlock ∧ some k_ ≠ (s_.2.2.2.2.1 : Value).ownBlock ∧ some k_ ≠ (s_.2.2.2.2.2.1 : Value).ownBlock ∧ some k_ ≠ (s_.2.2.2.2.2.2.2.1 : Value).ownBlock ∧ some k_ ≠ (s_.2.2.2.2.2.2.2.2.1 : Value).ownBlock) s_.2.2.2.2.2.2.1 t292) ∧ (Kd.R (Kd.int .i64) 3 w' w.heap.size (fun k_ => some k_ ≠ (s_.1 : Value).ownBlock ∧ some k_ ≠ (s_.2.1 : Value).ownBlock ∧ some k_ ≠ (s_.2.2.1 : Value).ownBlock ∧ some k_ ≠ (s_.2.2.2.1 : Value).ownBlock ∧ some k_ ≠ (s_.2.2.2.2.1 : Value).ownBlock ∧ some k_ ≠ (s_.2.2.2.2.2.1 : Value).ownBlock ∧ some k_ ≠ (s_.2.2.2.2.2.2.1 : Value).ownBlock ∧ some k_ ≠ (s_.2.2.2.2.2.2.2.2.1 : Value).ownBlock) s_.2.2.2.2.2.2.2.1 t295) ∧ (Kd.R (Kd.int .i64) 3 w' w.heap.size (fun k_ => some k_ ≠ (s_.1 : Value).ownBlock ∧ some k_ ≠ (s_.2.1 : Value).ownBlock ∧ some k_ ≠ (s_.2.2.1 : Value).ownBlock ∧ some k_ ≠ (s_.2.2.2.1 : Value).ownBlock ∧ some k_ ≠ (s_.2.2.2.2.1 : Value).ownBlock ∧ some k_ ≠ (s_.2.2.2.2.2.1 : Value).ownBlock ∧ some k_ ≠ (s_.2.2.2.2.2.2.1 : Value).ownBlock ∧ some k_ ≠ (s_.2.2.2.2.2.2.2.1 : Value).ownBlock) s_.2.2.2.2.2.2.2.2.1 t298) ∧ (w'.heap[gb261]? = some (.cells #[.int .i64 a0_0, .int .i64 a0_1, .int .i64 a0_2, .slice A0_3 l0_3.length c0_3, .slice A0_4 l0_4.length c0_4, .slice A0_5 l0_5.length c0_5] 26 (0, 0))) ∧ (w'.heap[gb262]? = some (.cells #[.int .i64 a1_0, .int .i64 a1_1, .int .i64 a1_2, .slice A1_3 l1_3.length c1_3, .slice A1_4 l1_4.length c1_4, .slice A1_5 l1_5.length c1_5] 26 (0, 0))) ∧ (w'.heap[s_.2.2.2.2.2.2.2.2.2]? = some (.cells #[.int .i64 0, .int .i64 0, .int .i64 0, .slice none 0 0, .slice none 0 0, .slice none 0 0] 41 (0, 0))) ∧ (w.heap.size ≤ s_.2.2.2.2.2.2.2.2.2) ∧ (w.heap.size ≤ s_.2.2.2.2.2.2.2.2.2) ∧ (gb261 ≠ s_.2.2.2.2.2.2.2.2.2) ∧ (s_.2.2.2.2.2.2.2.2.2 ≠ gb261) ∧ (gb262 ≠ s_.2.2.2.2.2.2.2.2.2) ∧ (s_.2.2.2.2.2.2.2.2.2 ≠ gb262) ∧ (Below w.heap.size w w')) ?_ ?_
   rotate_left
   ·intro hCont
    refine two_ (i := 1) (j := 9) (Ni := some 31) (Nj := some 8) #[true, true, true, false, true, false, false, false, false, false, false, false] #[true, false, true, false, true, false, false, false, false, true, false, false] rfl rfl rfl rfl (two_of HT_.out (by kernel_rfl)) (by decide) (by decide) (fun K hK => ?_) (fun K hK => ?_)
    ·skip
     refine goes_ Try.func19 (by kernel_rfl) rfl #[.agg #[.int .i64 a0_0, .int .i64 a0_1, .int .i64 a0_2, .slice A0_3 l0_3.length c0_3, .slice A0_4 l0_4.length c0_4, .slice A0_5 l0_5.length c0_5]] (by rfl) rfl rfl mpx9 ?_
     with_reducible refine (laws_toModel.calls k a0_0 a0_1 a0_2 _ _ l0_3 _ _ l0_4 _ _ l0_5 t265 t266 t267 t268 t271 t274 _ ?side1 ?side2 ?side3 ?side4 ?side5 ?side6 A20.out).mono ?_
     (case side1 => exact rCx9 (Kd.C_below HR0_3.out HB.out))
     (case side2 => exact HC0_3.out)
     (case side3 => exact rCx9 (Kd.C_below HR0_4.out HB.out))
     (case side4 => exact HC0_4.out)
     (case side5 => exact rCx9 (Kd.C_below HR0_5.out HB.out))
     (case side6 => exact HC0_5.out)
     rintro e w35 ⟨v269, v272, v275, rfl, ho0, ho1, ho2, hb⟩
     refine ⟨_, rfl, ?_⟩
     have HO270 := Aside0.mk (Kd.R_lower ho0 (below_size (be2x9 HB.out GE261.out GE262.out)))
     have HO273 := Aside0.mk (Kd.R_lower ho1 (below_size (be2x9 HB.out GE261.out GE262.out)))
     have HO276 := Aside0.mk (Kd.R_lower ho2 (below_size (be2x9 HB.out GE261.out GE262.out)))
     replace BK261 := Aside0.mk (blk_below (rBx9 BK261.out) hb)
     replace BK262 := Aside0.mk (blk_below (rBx9 BK262.out) hb)
     replace HB := Aside0.mk (below_step (be2x9 HB.out GE261.out GE262.out) hb)
     (try clear hb)
     (try clear hb2)
     (try clear hk)
     (try clear hi)
     (try clear ho0)
     (try clear ho1)
     (try clear ho2)
     refine hK.out _ _ (ca6x9 BK261.out (cc6x9 BK262.out)) (fun hHeld => ?_)
     clear hK K
     refine norm_ (a' := ?_) ?_ ?_
     rotate_left
     ·show Act.put _ (some 31) _ = _
      simp only [Act.put, List.setIfInBounds_toArray, List.set_cons_zero, List.set_cons_succ, i64_w, i32_w]
      rfl
     refine two_ (i := 3) (j := 9) (Ni := some 33) (Nj := some 8) #[true, true, true, true, true, false, false, false, false, false, false, false] #[true, true, true, false, true, false, false, false, false, true, false, false] rfl rfl rfl rfl (two_of HT_.out (by kernel_rfl)) (by decide) (by decide) (fun K hK => ?_) (fun K hK => ?_)
     ·skip
      refine goes_ Try.func19 (by kernel_rfl) rfl #[.agg #[.int .i64 a1_0, .int .i64 a1_1, .int .i64 a1_2, .slice A1_3 l1_3.length c1_3, .slice A1_4 l1_4.length c1_4, .slice A1_5 l1_5.length c1_5]] (by rfl) rfl rfl mpx9 ?_
      with_reducible refine (laws_toModel.calls k a1_0 a1_1 a1_2 _ _ l1_3 _ _ l1_4 _ _ l1_5 t277 t278 t279 t280 t283 t286 _ ?side1 ?side2 ?side3 ?side4 ?side5 ?side6 A21.out).mono ?_
      (case side1 => exact rCx9 (Kd.C_below HR1_3.out HB.out))
      (case side2 => exact HC1_3.out)
      (case side3 => exact rCx9 (Kd.C_below HR1_4.out HB.out))
      (case side4 => exact HC1_4.out)
      (case side5 => exact rCx9 (Kd.C_below HR1_5.out HB.out))
      (case side6 => exact HC1_5.out)
      rintro e w36 ⟨v281, v284, v287, rfl, ho0, ho1, ho2, hb⟩
      refine ⟨_, rfl, ?_⟩
      have HO282 := Aside0.mk (Kd.R_lower (nwx9 (nwx9 (nwx9 ho0 (rRx9 HO270.out)) (rRx9 HO273.out)) (rRx9 HO276.out)) (below_size (be2x9 HB.out GE261.out GE262.out)))
      have HO285 := Aside0.mk (Kd.R_lower (nwx9 (nwx9 (nwx9 ho1 (rRx9 HO270.out)) (rRx9 HO273.out)) (rRx9 HO276.out)) (below_size (be2x9 HB.out GE261.out GE262.out)))
      have HO288 := Aside0.mk (Kd.R_lower (nwx9 (nwx9 (nwx9 ho2 (rRx9 HO270.out)) (rRx9 HO273.out)) (rRx9 HO276.out)) (below_size (be2x9 HB.out GE261.out GE262.out)))
      replace HO270 := Aside0.mk (kp3x9 (rRx9 HO270.out) hb ho0 ho1 ho2)
      replace HO273 := Aside0.mk (kp3x9 (rRx9 HO273.out) hb ho0 ho1 ho2)
      replace HO276 := Aside0.mk (kp3x9 (rRx9 HO276.out) hb ho0 ho1 ho2)
      replace BK261 := Aside0.mk (blk_below (rBx9 BK261.out) hb)
      replace BK262 := Aside0.mk (blk_below (rBx9 BK262.out) hb)
      replace HB := Aside0.mk (below_step (be2x9 HB.out GE261.out GE262.out) hb)
      (try clear hb)
      (try clear hb2)
      (try clear hk)
      (try clear hi)
      (try clear ho0)
      (try clear ho1)
      (try clear ho2)
      obtain ⟨Ao37, co37, eo37⟩ := Kd.R_slice HO270.out
      (first | subst eo37 | (injection eo37 with f1_ f2_ f3_; have f4_ := f1_.symm; have f5_ := f3_.symm; clear f1_ f2_ f3_; subst f4_; subst f5_))
      obtain ⟨Ao38, co38, eo38⟩ := Kd.R_slice HO273.out
      (first | subst eo38 | (injection eo38 with f1_ f2_ f3_; have f4_ := f1_.symm; have f5_ := f3_.symm; clear f1_ f2_ f3_; subst f4_; subst f5_))
      obtain ⟨Ao39, co39, eo39⟩ := Kd.R_slice HO276.out
      (first | subst eo39 | (injection eo39 with f1_ f2_ f3_; have f4_ := f1_.symm; have f5_ := f3_.symm; clear f1_ f2_ f3_; subst f4_; subst f5_))
      obtain ⟨Ao40, co40, eo40⟩ := Kd.R_slice HO282.out
      (first | subst eo40 | (injection eo40 with f1_ f2_ f3_; have f4_ := f1_.symm; have f5_ := f3_.symm; clear f1_ f2_ f3_; subst f4_; subst f5_))
      obtain ⟨Ao41, co41, eo41⟩ := Kd.R_slice HO285.out
      (first | subst eo41 | (injection eo41 with f1_ f2_ f3_; have f4_ := f1_.symm; have f5_ := f3_.symm; clear f1_ f2_ f3_; subst f4_; subst f5_))
      obtain ⟨Ao42, co42, eo42⟩ := Kd.R_slice HO288.out
      (first | subst eo42 | (injection eo42 with f1_ f2_ f3_; have f4_ := f1_.symm; have f5_ := f3_.symm; clear f1_ f2_ f3_; subst f4_; subst f5_))
      refine hK.out _ _ (ca6x9 BK261.out (cc6x9 BK262.out)) (fun hHeld => ?_)
      clear hK K
      refine norm_ (a' := ?_) ?_ ?_
      rotate_left
      ·show Act.put _ (some 33) _ = _
       simp only [Act.put, List.setIfInBounds_toArray, List.set_cons_zero, List.set_cons_succ, i64_w, i32_w]
       rfl
      refine two_ (i := 5) (j := 9) (Ni := some 35) (Nj := some 8) #[true, true, true, true, true, true, false, false, false, false, false, false] #[true, true, true, true, true, false, false, false, false, true, false, false] rfl rfl rfl rfl (two_of HT_.out (by kernel_rfl)) (by decide) (by decide) (fun K hK => ?_) (fun K hK => ?_)
      ·skip
       refine goes_ Try.func40 (by kernel_rfl) rfl #[.agg #[.int .i64 t265, .int .i64 t266, .int .i64 t267, .slice Ao37 t268.length co37, .slice Ao38 t271.length co38, .slice Ao39 t274.length co39], .agg #[.int .i64 t277, .int .i64 t278, .int .i64 t279, .slice Ao40 t280.length co40, .slice Ao41 t283.length co41, .slice Ao42 t286.length co42], .int .i64 a2] (by rfl) rfl rfl mpx9 ?_
       with_reducible refine (spec_MixModels.calls k t265 t266 t267 _ _ t268 _ _ t271 _ _ t274 t277 t278 t279 _ _ t280 _ _ t283 _ _ t286 a2 t289 t290 t291 t292 t295 t298 t301 _ ?side1 ?side2 ?side3 ?side4 ?side5 ?side6 ?side7 ?side8 ?side9 ?side10 ?side11 ?side12 A22.out).mono ?_
       (case side1 => exact cRx9 HO270.out)
       (case side2 => exact (Kd.R_reads' HO270.out).2.1)
       (case side3 => exact cRx9 HO273.out)
       (case side4 => exact (Kd.R_reads' HO273.out).2.1)
       (case side5 => exact cRx9 HO276.out)
       (case side6 => exact (Kd.R_reads' HO276.out).2.1)
       (case side7 => exact cRx9 HO282.out)
       (case side8 => exact (Kd.R_reads' HO282.out).2.1)
       (case side9 => exact cRx9 HO285.out)
       (case side10 => exact (Kd.R_reads' HO285.out).2.1)
       (case side11 => exact cRx9 HO288.out)
       (case side12 => exact (Kd.R_reads' HO288.out).2.1)
       rintro e w43 ⟨v293, v296, v299, rfl, ho0, ho1, ho2, hb⟩
       refine ⟨_, rfl, ?_⟩
       have HO294 := Aside0.mk (Kd.R_lower (nwx9 (nwx9 (nwx9 (nwx9 (nwx9 (nwx9 ho0 (rRx9 HO270.out)) (rRx9 HO273.out)) (rRx9 HO276.out)) (rRx9 HO282.out)) (rRx9 HO285.out)) (rRx9 HO288.out)) (below_size (be2x9 HB.out GE261.out GE262.out)))
       have HO297 := Aside0.mk (Kd.R_lower (nwx9 (nwx9 (nwx9 (nwx9 (nwx9 (nwx9 ho1 (rRx9 HO270.out)) (rRx9 HO273.out)) (rRx9 HO276.out)) (rRx9 HO282.out)) (rRx9 HO285.out)) (rRx9 HO288.out)) (below_size (be2x9 HB.out GE261.out GE262.out)))
       have HO300 := Aside0.mk (Kd.R_lower (nwx9 (nwx9 (nwx9 (nwx9 (nwx9 (nwx9 ho2 (rRx9 HO270.out)) (rRx9 HO273.out)) (rRx9 HO276.out)) (rRx9 HO282.out)) (rRx9 HO285.out)) (rRx9 HO288.out)) (below_size (be2x9 HB.out GE261.out GE262.out)))
       replace HO270 := Aside0.mk (kp3x9 (rRx9 HO270.out) hb ho0 ho1 ho2)
       replace HO273 := Aside0.mk (kp3x9 (rRx9 HO273.out) hb ho0 ho1 ho2)
       replace HO276 := Aside0.mk (kp3x9 (rRx9 HO276.out) hb ho0 ho1 ho2)
       replace HO282 := Aside0.mk (kp3x9 (rRx9 HO282.out) hb ho0 ho1 ho2)
       replace HO285 := Aside0.mk (kp3x9 (rRx9 HO285.out) hb ho0 ho1 ho2)
       replace HO288 := Aside0.mk (kp3x9 (rRx9 HO288.out) hb ho0 ho1 ho2)
       replace BK261 := Aside0.mk (blk_below (rBx9 BK261.out) hb)
       replace BK262 := Aside0.mk (blk_below (rBx9 BK262.out) hb)
       replace HB := Aside0.mk (below_step (be2x9 HB.out GE261.out GE262.out) hb)
       (try clear hb)
       (try clear hb2)
       (try clear hk)
       (try clear hi)
       (try clear ho0)
       (try clear ho1)
       (try clear ho2)
       refine hK.out _ _ (ca6x9 BK261.out (cc6x9 BK262.out)) (fun hHeld => ?_)
       clear hK K
       refine norm_ (a' := ?_) ?_ ?_
       rotate_left
       ·show Act.put _ (some 35) _ = _
        simp only [Act.put, List.setIfInBounds_toArray, List.set_cons_zero, List.set_cons_succ, i64_w, i32_w]
        rfl
       refine pure_ (i := 6) (N := some 29) (v := ?_) (a' := ?_) #[true, true, true, true, true, true, true, false, false, false, false, false] rfl rfl (any_of HT_.out (by kernel_rfl)) (fun _ _ _ h => h) (Or.inl ⟨by rfl, ?_⟩) ?_ ?_
       rotate_left
       ·intro w'
        go_simp
        with_reducible rfl
       rotate_left
       ·simp only [Act.put, List.setIfInBounds_toArray, List.set_cons_zero, List.set_cons_succ, i64_w, i32_w]
        rfl
       refine pure_ (i := 7) (N := some 36) (v := ?_) (a' := ?_) #[true, true, true, true, true, true, true, true, false, false, false, false] rfl rfl (any_of HT_.out (by kernel_rfl)) (fun _ _ _ h => h) (Or.inl ⟨by rfl, ?_⟩) ?_ ?_
       rotate_left
       ·intro w'
        go_simp
        with_reducible rfl
       rotate_left
       ·simp only [Act.put, List.setIfInBounds_toArray, List.set_cons_zero, List.set_cons_succ, i64_w, i32_w]
        rfl
       refine pure_ (i := 8) (N := some 37) (v := ?_) (a' := ?_) #[true, true, true, true, true, true, true, true, true, false, false, false] rfl rfl (any_of HT_.out (by kernel_rfl)) (fun _ _ _ h => h) (Or.inl ⟨by rfl, ?_⟩) ?_ ?_
       rotate_left
       ·intro w'
        go_simp
        with_reducible rfl
       rotate_left
       ·simp only [Act.put, List.setIfInBounds_toArray, List.set_cons_zero, List.set_cons_succ, i64_w, i32_w]
        rfl
       refine one_ (i := 9) (N := some 8) #[true, true, true, true, true, true, true, true, true, true, false, false] rfl rfl (one_of HT_.out (by kernel_rfl)) (by decide) (fun K hK => ?_)
       refine box_step ?hg (N := 8) ?hd (cs := #[.int .i64 0, .int .i64 0, .int .i64 0, .slice none 0 0, .slice none 0 0, .slice none 0 0]) (t := 41) ?hr ?_; (case hd => rfl); (case hg => rfl); (case hr => first | (go_simp; done) | (go_simp; rfl))
       intro gb302 hg w44 hbox hb
       replace HO270 := Aside0.mk (Kd.R_below (rRx9 HO270.out) hb)
       replace HO273 := Aside0.mk (Kd.R_below (rRx9 HO273.out) hb)
       replace HO276 := Aside0.mk (Kd.R_below (rRx9 HO276.out) hb)
       replace HO282 := Aside0.mk (Kd.R_below (rRx9 HO282.out) hb)
       replace HO285 := Aside0.mk (Kd.R_below (rRx9 HO285.out) hb)
       replace HO288 := Aside0.mk (Kd.R_below (rRx9 HO288.out) hb)
       replace HO294 := Aside0.mk (Kd.R_below (rRx9 HO294.out) hb)
       replace HO297 := Aside0.mk (Kd.R_below (rRx9 HO297.out) hb)
       replace HO300 := Aside0.mk (Kd.R_below (rRx9 HO300.out) hb)
       have BK302 := Aside0.mk (hbox)
       have GW302 := Aside0.mk ((by rw [hg]; exact (below_size (be2x9 HB.out GE261.out GE262.out)) : w.heap.size ≤ gb302))
       have GE302 := Aside0.mk ((by rw [hg]; exact (below_size (be2x9 HB.out GE261.out GE262.out)) : w.heap.size ≤ gb302))
       replace HB := Aside0.mk (below_step (be2x9 HB.out GE261.out GE262.out) hb)
       have NB261_302 := Aside0.mk ((by rw [hg]; exact Nat.ne_of_lt (blk_lt (rBx9 BK261.out)) : gb261 ≠ gb302))
       have NB302_261 := Aside0.mk ((by rw [hg]; exact Nat.ne_of_gt (blk_lt (rBx9 BK261.out)) : gb302 ≠ gb261))
       replace BK261 := Aside0.mk (blk_below (rBx9 BK261.out) hb)
       have NB262_302 := Aside0.mk ((by rw [hg]; exact Nat.ne_of_lt (blk_lt (rBx9 BK262.out)) : gb262 ≠ gb302))
       have NB302_262 := Aside0.mk ((by rw [hg]; exact Nat.ne_of_gt (blk_lt (rBx9 BK262.out)) : gb302 ≠ gb262))
       replace BK262 := Aside0.mk (blk_below (rBx9 BK262.out) hb)
       clear hb hbox hg
       refine hK.out _ _ (ca6x9 BK261.out (cc6x9 BK262.out)) (fun hHeld => ?_)
       clear hK K
       refine norm_ (a' := ?_) ?_ ?_
       rotate_left
       ·show Act.put _ (some 8) _ = _
        simp only [Act.put, List.setIfInBounds_toArray, List.set_cons_zero, List.set_cons_succ, i64_w, i32_w]
        rfl
       exact norm_ (by simp only [putAll, Act.put, List.setIfInBounds_toArray, List.set_cons_zero, List.set_cons_succ]) (hCont (.slice Ao37 t268.length co37, .slice Ao38 t271.length co38, .slice Ao39 t274.length co39, .slice Ao40 t280.length co40, .slice Ao41 t283.length co41, .slice Ao42 t286.length co42, v293, v296, v299, gb302) _ ⟨hHeld, (by exact rRx9 (mox9 HO270.out)), (by exact rRx9 (mox9 HO273.out)), (by exact rRx9 (mox9 HO276.out)), (by exact rRx9 (mox9 HO282.out)), (by exact rRx9 (mox9 HO285.out)), (by exact rRx9 (mox9 HO288.out)), (by exact rRx9 (mox9 HO294.out)), (by exact rRx9 (mox9 HO297.out)), (by exact rRx9 (mox9 HO300.out)), (rBx9 BK261.out), (rBx9 BK262.out), (rBx9 BK302.out), GW302.out, GE302.out, NB261_302.out, NB302_261.out, NB262_302.out, NB302_262.out, (be3x9 HB.out GE261.out GE262.out GE302.out)⟩)
      ·skip
       refine box_step ?hg (N := 8) ?hd (cs := #[.int .i64 0, .int .i64 0, .int .i64 0, .slice none 0 0, .slice none 0 0, .slice none 0 0]) (t := 41) ?hr ?_; (case hd => rfl); (case hg => rfl); (case hr => first | (go_simp; done) | (go_simp; rfl))
       intro gb302 hg w37 hbox hb
       replace HO270 := Aside0.mk (Kd.R_below (rRx9 HO270.out) hb)
       replace HO273 := Aside0.mk (Kd.R_below (rRx9 HO273.out) hb)
       replace HO276 := Aside0.mk (Kd.R_below (rRx9 HO276.out) hb)
       replace HO282 := Aside0.mk (Kd.R_below (rRx9 HO282.out) hb)
       replace HO285 := Aside0.mk (Kd.R_below (rRx9 HO285.out) hb)
       replace HO288 := Aside0.mk (Kd.R_below (rRx9 HO288.out) hb)
       have BK302 := Aside0.mk (hbox)
       have GW302 := Aside0.mk ((by rw [hg]; exact (below_size (be2x9 HB.out GE261.out GE262.out)) : w.heap.size ≤ gb302))
       have GE302 := Aside0.mk ((by rw [hg]; exact (below_size (be2x9 HB.out GE261.out GE262.out)) : w.heap.size ≤ gb302))
       replace HB := Aside0.mk (below_step (be2x9 HB.out GE261.out GE262.out) hb)
       have NB261_302 := Aside0.mk ((by rw [hg]; exact Nat.ne_of_lt (blk_lt (rBx9 BK261.out)) : gb261 ≠ gb302))
       have NB302_261 := Aside0.mk ((by rw [hg]; exact Nat.ne_of_gt (blk_lt (rBx9 BK261.out)) : gb302 ≠ gb261))
       replace BK261 := Aside0.mk (blk_below (rBx9 BK261.out) hb)
       have NB262_302 := Aside0.mk ((by rw [hg]; exact Nat.ne_of_lt (blk_lt (rBx9 BK262.out)) : gb262 ≠ gb302))
       have NB302_262 := Aside0.mk ((by rw [hg]; exact Nat.ne_of_gt (blk_lt (rBx9 BK262.out)) : gb302 ≠ gb262))
       replace BK262 := Aside0.mk (blk_below (rBx9 BK262.out) hb)
       clear hb hbox hg
       obtain ⟨Ao38, co38, eo38⟩ := Kd.R_slice HO270.out
       (first | subst eo38 | (injection eo38 with f1_ f2_ f3_; have f4_ := f1_.symm; have f5_ := f3_.symm; clear f1_ f2_ f3_; subst f4_; subst f5_))
       obtain ⟨Ao39, co39, eo39⟩ := Kd.R_slice HO273.out
       (first | subst eo39 | (injection eo39 with f1_ f2_ f3_; have f4_ := f1_.symm; have f5_ := f3_.symm; clear f1_ f2_ f3_; subst f4_; subst f5_))
       obtain ⟨Ao40, co40, eo40⟩ := Kd.R_slice HO276.out
       (first | subst eo40 | (injection eo40 with f1_ f2_ f3_; have f4_ := f1_.symm; have f5_ := f3_.symm; clear f1_ f2_ f3_; subst f4_; subst f5_))
       obtain ⟨Ao41, co41, eo41⟩ := Kd.R_slice HO282.out
       (first | subst eo41 | (injection eo41 with f1_ f2_ f3_; have f4_ := f1_.symm; have f5_ := f3_.symm; clear f1_ f2_ f3_; subst f4_; subst f5_))
       obtain ⟨Ao42, co42, eo42⟩ := Kd.R_slice HO285.out
       (first | subst eo42 | (injection eo42 with f1_ f2_ f3_; have f4_ := f1_.symm; have f5_ := f3_.symm; clear f1_ f2_ f3_; subst f4_; subst f5_))
       obtain ⟨Ao43, co43, eo43⟩ := Kd.R_slice HO288.out
       (first | subst eo43 | (injection eo43 with f1_ f2_ f3_; have f4_ := f1_.symm; have f5_ := f3_.symm; clear f1_ f2_ f3_; subst f4_; subst f5_))
       refine hK.out _ _ (ca6x9 BK261.out (cc6x9 BK262.out)) (fun hHeld => ?_)
       clear hK K
       refine norm_ (a' := ?_) ?_ ?_
       rotate_left
       ·show Act.put _ (some 8) _ = _
        simp only [Act.put, List.setIfInBounds_toArray, List.set_cons_zero, List.set_cons_succ, i64_w, i32_w]
        rfl
       refine one_ (i := 5) (N := some 35) #[true, true, true, true, true, true, false, false, false, true, false, false] rfl rfl (one_of HT_.out (by kernel_rfl)) (by decide) (fun K hK => ?_)
       refine goes_ Try.func40 (by kernel_rfl) rfl #[.agg #[.int .i64 t265, .int .i64 t266, .int .i64 t267, .slice Ao38 t268.length co38, .slice Ao39 t271.length co39, .slice Ao40 t274.length co40], .agg #[.int .i64 t277, .int .i64 t278, .int .i64 t279, .slice Ao41 t280.length co41, .slice Ao42 t283.length co42, .slice Ao43 t286.length co43], .int .i64 a2] (by rfl) rfl rfl mpx9 ?_
       with_reducible refine (spec_MixModels.calls k t265 t266 t267 _ _ t268 _ _ t271 _ _ t274 t277 t278 t279 _ _ t280 _ _ t283 _ _ t286 a2 t289 t290 t291 t292 t295 t298 t301 _ ?side1 ?side2 ?side3 ?side4 ?side5 ?side6 ?side7 ?side8 ?side9 ?side10 ?side11 ?side12 A22.out).mono ?_
       (case side1 => exact cRx9 HO270.out)
       (case side2 => exact (Kd.R_reads' HO270.out).2.1)
       (case side3 => exact cRx9 HO273.out)
       (case side4 => exact (Kd.R_reads' HO273.out).2.1)
       (case side5 => exact cRx9 HO276.out)
       (case side6 => exact (Kd.R_reads' HO276.out).2.1)
       (case side7 => exact cRx9 HO282.out)
       (case side8 => exact (Kd.R_reads' HO282.out).2.1)
       (case side9 => exact cRx9 HO285.out)
       (case side10 => exact (Kd.R_reads' HO285.out).2.1)
       (case side11 => exact cRx9 HO288.out)
       (case side12 => exact (Kd.R_reads' HO288.out).2.1)
       rintro e w44 ⟨v293, v296, v299, rfl, ho0, ho1, ho2, hb⟩
       refine ⟨_, rfl, ?_⟩
       have HO294 := Aside0.mk (Kd.R_lower (nwx9 (nwx9 (nwx9 (nwx9 (nwx9 (nwx9 ho0 (rRx9 HO270.out)) (rRx9 HO273.out)) (rRx9 HO276.out)) (rRx9 HO282.out)) (rRx9 HO285.out)) (rRx9 HO288.out)) (below_size (be3x9 HB.out GE261.out GE262.out GE302.out)))
       have HO297 := Aside0.mk (Kd.R_lower (nwx9 (nwx9 (nwx9 (nwx9 (nwx9 (nwx9 ho1 (rRx9 HO270.out)) (rRx9 HO273.out)) (rRx9 HO276.out)) (rRx9 HO282.out)) (rRx9 HO285.out)) (rRx9 HO288.out)) (below_size (be3x9 HB.out GE261.out GE262.out GE302.out)))
       have HO300 := Aside0.mk (Kd.R_lower (nwx9 (nwx9 (nwx9 (nwx9 (nwx9 (nwx9 ho2 (rRx9 HO270.out)) (rRx9 HO273.out)) (rRx9 HO276.out)) (rRx9 HO282.out)) (rRx9 HO285.out)) (rRx9 HO288.out)) (below_size (be3x9 HB.out GE261.out GE262.out GE302.out)))
       replace HO270 := Aside0.mk (kp3x9 (rRx9 HO270.out) hb ho0 ho1 ho2)
       replace HO273 := Aside0.mk (kp3x9 (rRx9 HO273.out) hb ho0 ho1 ho2)
       replace HO276 := Aside0.mk (kp3x9 (rRx9 HO276.out) hb ho0 ho1 ho2)
       replace HO282 := Aside0.mk (kp3x9 (rRx9 HO282.out) hb ho0 ho1 ho2)
       replace HO285 := Aside0.mk (kp3x9 (rRx9 HO285.out) hb ho0 ho1 ho2)
       replace HO288 := Aside0.mk (kp3x9 (rRx9 HO288.out) hb ho0 ho1 ho2)
       replace BK261 := Aside0.mk (blk_below (rBx9 BK261.out) hb)
       replace BK262 := Aside0.mk (blk_below (rBx9 BK262.out) hb)
       replace BK302 := Aside0.mk (blk_below (rBx9 BK302.out) hb)
       replace HB := Aside0.mk (below_step (be3x9 HB.out GE261.out GE262.out GE302.out) hb)
       (try clear hb)
       (try clear hb2)
       (try clear hk)
       (try clear hi)
       (try clear ho0)
       (try clear ho1)
       (try clear ho2)
       refine hK.out _ _ (ca6x9 BK261.out (cc6x9 BK262.out)) (fun hHeld => ?_)
       clear hK K
       refine norm_ (a' := ?_) ?_ ?_
       rotate_left
       ·show Act.put _ (some 35) _ = _
        simp only [Act.put, List.setIfInBounds_toArray, List.set_cons_zero, List.set_cons_succ, i64_w, i32_w]
        rfl
       refine pure_ (i := 6) (N := some 29) (v := ?_) (a' := ?_) #[true, true, true, true, true, true, true, false, false, true, false, false] rfl rfl (any_of HT_.out (by kernel_rfl)) (fun _ _ _ h => h) (Or.inl ⟨by rfl, ?_⟩) ?_ ?_
       rotate_left
       ·intro w'
        go_simp
        with_reducible rfl
       rotate_left
       ·simp only [Act.put, List.setIfInBounds_toArray, List.set_cons_zero, List.set_cons_succ, i64_w, i32_w]
        rfl
       refine pure_ (i := 7) (N := some 36) (v := ?_) (a' := ?_) #[true, true, true, true, true, true, true, true, false, true, false, false] rfl rfl (any_of HT_.out (by kernel_rfl)) (fun _ _ _ h => h) (Or.inl ⟨by rfl, ?_⟩) ?_ ?_
       rotate_left
       ·intro w'
        go_simp
        with_reducible rfl
       rotate_left
       ·simp only [Act.put, List.setIfInBounds_toArray, List.set_cons_zero, List.set_cons_succ, i64_w, i32_w]
        rfl
       refine pure_ (i := 8) (N := some 37) (v := ?_) (a' := ?_) #[true, true, true, true, true, true, true, true, true, true, false, false] rfl rfl (any_of HT_.out (by kernel_rfl)) (fun _ _ _ h => h) (Or.inl ⟨by rfl, ?_⟩) ?_ ?_
       rotate_left
       ·intro w'
        go_simp
        with_reducible rfl
       rotate_left
       ·simp only [Act.put, List.setIfInBounds_toArray, List.set_cons_zero, List.set_cons_succ, i64_w, i32_w]
        rfl
       exact norm_ (by simp only [putAll, Act.put, List.setIfInBounds_toArray, List.set_cons_zero, List.set_cons_succ]) (hCont (.slice Ao38 t268.length co38, .slice Ao39 t271.length co39, .slice Ao40 t274.length co40, .slice Ao41 t280.length co41, .slice Ao42 t283.length co42, .slice Ao43 t286.length co43, v293, v296, v299, gb302) _ ⟨hHeld, (by exact rRx9 (mox9 HO270.out)), (by exact rRx9 (mox9 HO273.out)), (by exact rRx9 (mox9 HO276.out)), (by exact rRx9 (mox9 HO282.out)), (by exact rRx9 (mox9 HO285.out)), (by exact rRx9 (mox9 HO288.out)), (by exact rRx9 (mox9 HO294.out)), (by exact rRx9 (mox9 HO297.out)), (by exact rRx9 (mox9 HO300.out)), (rBx9 BK261.out), (rBx9 BK262.out), (rBx9 BK302.out), GW302.out, GE302.out, NB261_302.out, NB302_261.out, NB262_302.out, NB302_262.out, (be3x9 HB.out GE261.out GE262.out GE302.out)⟩)
     ·skip
      refine box_step ?hg (N := 8) ?hd (cs := #[.int .i64 0, .int .i64 0, .int .i64 0, .slice none 0 0, .slice none 0 0, .slice none 0 0]) (t := 41) ?hr ?_; (case hd => rfl); (case hg => rfl); (case hr => first | (go_simp; done) | (go_simp; rfl))
      intro gb302 hg w36 hbox hb
      replace HO270 := Aside0.mk (Kd.R_below (rRx9 HO270.out) hb)
      replace HO273 := Aside0.mk (Kd.R_below (rRx9 HO273.out) hb)
      replace HO276 := Aside0.mk (Kd.R_below (rRx9 HO276.out) hb)
      have BK302 := Aside0.mk (hbox)
      have GW302 := Aside0.mk ((by rw [hg]; exact (below_size (be2x9 HB.out GE261.out GE262.out)) : w.heap.size ≤ gb302))
      have GE302 := Aside0.mk ((by rw [hg]; exact (below_size (be2x9 HB.out GE261.out GE262.out)) : w.heap.size ≤ gb302))
      replace HB := Aside0.mk (below_step (be2x9 HB.out GE261.out GE262.out) hb)
      have NB261_302 := Aside0.mk ((by rw [hg]; exact Nat.ne_of_lt (blk_lt (rBx9 BK261.out)) : gb261 ≠ gb302))
      have NB302_261 := Aside0.mk ((by rw [hg]; exact Nat.ne_of_gt (blk_lt (rBx9 BK261.out)) : gb302 ≠ gb261))
      replace BK261 := Aside0.mk (blk_below (rBx9 BK261.out) hb)
      have NB262_302 := Aside0.mk ((by rw [hg]; exact Nat.ne_of_lt (blk_lt (rBx9 BK262.out)) : gb262 ≠ gb302))
      have NB302_262 := Aside0.mk ((by rw [hg]; exact Nat.ne_of_gt (blk_lt (rBx9 BK262.out)) : gb302 ≠ gb262))
      replace BK262 := Aside0.mk (blk_below (rBx9 BK262.out) hb)
      clear hb hbox hg
      refine hK.out _ _ (ca6x9 BK261.out (cc6x9 BK262.out)) (fun hHeld => ?_)
      clear hK K
      refine norm_ (a' := ?_) ?_ ?_
      rotate_left
      ·show Act.put _ (some 8) _ = _
       simp only [Act.put, List.setIfInBounds_toArray, List.set_cons_zero, List.set_cons_succ, i64_w, i32_w]
       rfl
      refine one_ (i := 3) (N := some 33) #[true, true, true, true, true, false, false, false, false, true, false, false] rfl rfl (one_of HT_.out (by kernel_rfl)) (by decide) (fun K hK => ?_)
      refine goes_ Try.func19 (by kernel_rfl) rfl #[.agg #[.int .i64 a1_0, .int .i64 a1_1, .int .i64 a1_2, .slice A1_3 l1_3.length c1_3, .slice A1_4 l1_4.length c1_4, .slice A1_5 l1_5.length c1_5]] (by rfl) rfl rfl mpx9 ?_
      with_reducible refine (laws_toModel.calls k a1_0 a1_1 a1_2 _ _ l1_3 _ _ l1_4 _ _ l1_5 t277 t278 t279 t280 t283 t286 _ ?side1 ?side2 ?side3 ?side4 ?side5 ?side6 A21.out).mono ?_
      (case side1 => exact rCx9 (Kd.C_below HR1_3.out HB.out))
      (case side2 => exact HC1_3.out)
      (case side3 => exact rCx9 (Kd.C_below HR1_4.out HB.out))
      (case side4 => exact HC1_4.out)
      (case side5 => exact rCx9 (Kd.C_below HR1_5.out HB.out))
      (case side6 => exact HC1_5.out)
      rintro e w37 ⟨v281, v284, v287, rfl, ho0, ho1, ho2, hb⟩
      refine ⟨_, rfl, ?_⟩
      have HO282 := Aside0.mk (Kd.R_lower (nwx9 (nwx9 (nwx9 ho0 (rRx9 HO270.out)) (rRx9 HO273.out)) (rRx9 HO276.out)) (below_size (be3x9 HB.out GE261.out GE262.out GE302.out)))
      have HO285 := Aside0.mk (Kd.R_lower (nwx9 (nwx9 (nwx9 ho1 (rRx9 HO270.out)) (rRx9 HO273.out)) (rRx9 HO276.out)) (below_size (be3x9 HB.out GE261.out GE262.out GE302.out)))
      have HO288 := Aside0.mk (Kd.R_lower (nwx9 (nwx9 (nwx9 ho2 (rRx9 HO270.out)) (rRx9 HO273.out)) (rRx9 HO276.out)) (below_size (be3x9 HB.out GE261.out GE262.out GE302.out)))
      replace HO270 := Aside0.mk (kp3x9 (rRx9 HO270.out) hb ho0 ho1 ho2)
      replace HO273 := Aside0.mk (kp3x9 (rRx9 HO273.out) hb ho0 ho1 ho2)
      replace HO276 := Aside0.mk (kp3x9 (rRx9 HO276.out) hb ho0 ho1 ho2)
      replace BK261 := Aside0.mk (blk_below (rBx9 BK261.out) hb)
      replace BK262 := Aside0.mk (blk_below (rBx9 BK262.out) hb)
      replace BK302 := Aside0.mk (blk_below (rBx9 BK302.out) hb)
      replace HB := Aside0.mk (below_step (be3x9 HB.out GE261.out GE262.out GE302.out) hb)
      (try clear hb)
      (try clear hb2)
      (try clear hk)
      (try clear hi)
      (try clear ho0)
      (try clear ho1)
      (try clear ho2)
      obtain ⟨Ao38, co38, eo38⟩ := Kd.R_slice HO270.out
      (first | subst eo38 | (injection eo38 with f1_ f2_ f3_; have f4_ := f1_.symm; have f5_ := f3_.symm; clear f1_ f2_ f3_; subst f4_; subst f5_))
      obtain ⟨Ao39, co39, eo39⟩ := Kd.R_slice HO273.out
      (first | subst eo39 | (injection eo39 with f1_ f2_ f3_; have f4_ := f1_.symm; have f5_ := f3_.symm; clear f1_ f2_ f3_; subst f4_; subst f5_))
      obtain ⟨Ao40, co40, eo40⟩ := Kd.R_slice HO276.out
      (first | subst eo40 | (injection eo40 with f1_ f2_ f3_; have f4_ := f1_.symm; have f5_ := f3_.symm; clear f1_ f2_ f3_; subst f4_; subst f5_))
      obtain ⟨Ao41, co41, eo41⟩ := Kd.R_slice HO282.out
      (first | subst eo41 | (injection eo41 with f1_ f2_ f3_; have f4_ := f1_.symm; have f5_ := f3_.symm; clear f1_ f2_ f3_; subst f4_; subst f5_))
      obtain ⟨Ao42, co42, eo42⟩ := Kd.R_slice HO285.out
      (first | subst eo42 | (injection eo42 with f1_ f2_ f3_; have f4_ := f1_.symm; have f5_ := f3_.symm; clear f1_ f2_ f3_; subst f4_; subst f5_))
      obtain ⟨Ao43, co43, eo43⟩ := Kd.R_slice HO288.out
      (first | subst eo43 | (injection eo43 with f1_ f2_ f3_; have f4_ := f1_.symm; have f5_ := f3_.symm; clear f1_ f2_ f3_; subst f4_; subst f5_))
      refine hK.out _ _ (ca6x9 BK261.out (cc6x9 BK262.out)) (fun hHeld => ?_)
      clear hK K
      refine norm_ (a' := ?_) ?_ ?_
      rotate_left
      ·show Act.put _ (some 33) _ = _
       simp only [Act.put, List.setIfInBounds_toArray, List.set_cons_zero, List.set_cons_succ, i64_w, i32_w]
       rfl
      refine one_ (i := 5) (N := some 35) #[true, true, true, true, true, true, false, false, false, true, false, false] rfl rfl (one_of HT_.out (by kernel_rfl)) (by decide) (fun K hK => ?_)
      refine goes_ Try.func40 (by kernel_rfl) rfl #[.agg #[.int .i64 t265, .int .i64 t266, .int .i64 t267, .slice Ao38 t268.length co38, .slice Ao39 t271.length co39, .slice Ao40 t274.length co40], .agg #[.int .i64 t277, .int .i64 t278, .int .i64 t279, .slice Ao41 t280.length co41, .slice Ao42 t283.length co42, .slice Ao43 t286.length co43], .int .i64 a2] (by rfl) rfl rfl mpx9 ?_
      with_reducible refine (spec_MixModels.calls k t265 t266 t267 _ _ t268 _ _ t271 _ _ t274 t277 t278 t279 _ _ t280 _ _ t283 _ _ t286 a2 t289 t290 t291 t292 t295 t298 t301 _ ?side1 ?side2 ?side3 ?side4 ?side5 ?side6 ?side7 ?side8 ?side9 ?side10 ?side11 ?side12 A22.out).mono ?_
      (case side1 => exact cRx9 HO270.out)
      (case side2 => exact (Kd.R_reads' HO270.out).2.1)
      (case side3 => exact cRx9 HO273.out)
      (case side4 => exact (Kd.R_reads' HO273.out).2.1)
      (case side5 => exact cRx9 HO276.out)
      (case side6 => exact (Kd.R_reads' HO276.out).2.1)
      (case side7 => exact cRx9 HO282.out)
      (case side8 => exact (Kd.R_reads' HO282.out).2.1)
      (case side9 => exact cRx9 HO285.out)
      (case side10 => exact (Kd.R_reads' HO285.out).2.1)
      (case side11 => exact cRx9 HO288.out)
      (case side12 => exact (Kd.R_reads' HO288.out).2.1)
      rintro e w44 ⟨v293, v296, v299, rfl, ho0, ho1, ho2, hb⟩
      refine ⟨_, rfl, ?_⟩
      have HO294 := Aside0.mk (Kd.R_lower (nwx9 (nwx9 (nwx9 (nwx9 (nwx9 (nwx9 ho0 (rRx9 HO270.out)) (rRx9 HO273.out)) (rRx9 HO276.out)) (rRx9 HO282.out)) (rRx9 HO285.out)) (rRx9 HO288.out)) (below_size (be3x9 HB.out GE261.out GE262.out GE302.out)))
      have HO297 := Aside0.mk (Kd.R_lower (nwx9 (nwx9 (nwx9 (nwx9 (nwx9 (nwx9 ho1 (rRx9 HO270.out)) (rRx9 HO273.out)) (rRx9 HO276.out)) (rRx9 HO282.out)) (rRx9 HO285.out)) (rRx9 HO288.out)) (below_size (be3x9 HB.out GE261.out GE262.out GE302.out)))
      have HO300 := Aside0.mk (Kd.R_lower (nwx9 (nwx9 (nwx9 (nwx9 (nwx9 (nwx9 ho2 (rRx9 HO270.out)) (rRx9 HO273.out)) (rRx9 HO276.out)) (rRx9 HO282.out)) (rRx9 HO285.out)) (rRx9 HO288.out)) (below_size (be3x9 HB.out GE261.out GE262.out GE302.out)))
      replace HO270 := Aside0.mk (kp3x9 (rRx9 HO270.out) hb ho0 ho1 ho2)
      replace HO273 := Aside0.mk (kp3x9 (rRx9 HO273.out) hb ho0 ho1 ho2)
      replace HO276 := Aside0.mk (kp3x9 (rRx9 HO276.out) hb ho0 ho1 ho2)
      replace HO282 := Aside0.mk (kp3x9 (rRx9 HO282.out) hb ho0 ho1 ho2)
      replace HO285 := Aside0.mk (kp3x9 (rRx9 HO285.out) hb ho0 ho1 ho2)
      replace HO288 := Aside0.mk (kp3x9 (rRx9 HO288.out) hb ho0 ho1 ho2)
      replace BK261 := Aside0.mk (blk_below (rBx9 BK261.out) hb)
      replace BK262 := Aside0.mk (blk_below (rBx9 BK262.out) hb)
      replace BK302 := Aside0.mk (blk_below (rBx9 BK302.out) hb)
      replace HB := Aside0.mk (below_step (be3x9 HB.out GE261.out GE262.out GE302.out) hb)
      (try clear hb)
      (try clear hb2)
      (try clear hk)
      (try clear hi)
      (try clear ho0)
      (try clear ho1)
      (try clear ho2)
      refine hK.out _ _ (ca6x9 BK261.out (cc6x9 BK262.out)) (fun hHeld => ?_)
      clear hK K
      refine norm_ (a' := ?_) ?_ ?_
      rotate_left
      ·show Act.put _ (some 35) _ = _
       simp only [Act.put, List.setIfInBounds_toArray, List.set_cons_zero, List.set_cons_succ, i64_w, i32_w]
       rfl
      refine pure_ (i := 6) (N := some 29) (v := ?_) (a' := ?_) #[true, true, true, true, true, true, true, false, false, true, false, false] rfl rfl (any_of HT_.out (by kernel_rfl)) (fun _ _ _ h => h) (Or.inl ⟨by rfl, ?_⟩) ?_ ?_
      rotate_left
      ·intro w'
       go_simp
       with_reducible rfl
      rotate_left
      ·simp only [Act.put, List.setIfInBounds_toArray, List.set_cons_zero, List.set_cons_succ, i64_w, i32_w]
       rfl
      refine pure_ (i := 7) (N := some 36) (v := ?_) (a' := ?_) #[true, true, true, true, true, true, true, true, false, true, false, false] rfl rfl (any_of HT_.out (by kernel_rfl)) (fun _ _ _ h => h) (Or.inl ⟨by rfl, ?_⟩) ?_ ?_
      rotate_left
      ·intro w'
       go_simp
       with_reducible rfl
      rotate_left
      ·simp only [Act.put, List.setIfInBounds_toArray, List.set_cons_zero, List.set_cons_succ, i64_w, i32_w]
       rfl
      refine pure_ (i := 8) (N := some 37) (v := ?_) (a' := ?_) #[true, true, true, true, true, true, true, true, true, true, false, false] rfl rfl (any_of HT_.out (by kernel_rfl)) (fun _ _ _ h => h) (Or.inl ⟨by rfl, ?_⟩) ?_ ?_
      rotate_left
      ·intro w'
       go_simp
       with_reducible rfl
      rotate_left
      ·simp only [Act.put, List.setIfInBounds_toArray, List.set_cons_zero, List.set_cons_succ, i64_w, i32_w]
       rfl
      exact norm_ (by simp only [putAll, Act.put, List.setIfInBounds_toArray, List.set_cons_zero, List.set_cons_succ]) (hCont (.slice Ao38 t268.length co38, .slice Ao39 t271.length co39, .slice Ao40 t274.length co40, .slice Ao41 t280.length co41, .slice Ao42 t283.length co42, .slice Ao43 t286.length co43, v293, v296, v299, gb302) _ ⟨hHeld, (by exact rRx9 (mox9 HO270.out)), (by exact rRx9 (mox9 HO273.out)), (by exact rRx9 (mox9 HO276.out)), (by exact rRx9 (mox9 HO282.out)), (by exact rRx9 (mox9 HO285.out)), (by exact rRx9 (mox9 HO288.out)), (by exact rRx9 (mox9 HO294.out)), (by exact rRx9 (mox9 HO297.out)), (by exact rRx9 (mox9 HO300.out)), (rBx9 BK261.out), (rBx9 BK262.out), (rBx9 BK302.out), GW302.out, GE302.out, NB261_302.out, NB302_261.out, NB262_302.out, NB302_262.out, (be3x9 HB.out GE261.out GE262.out GE302.out)⟩)
    ·skip
     refine box_step ?hg (N := 8) ?hd (cs := #[.int .i64 0, .int .i64 0, .int .i64 0, .slice none 0 0, .slice none 0 0, .slice none 0 0]) (t := 41) ?hr ?_; (case hd => rfl); (case hg => rfl); (case hr => first | (go_simp; done) | (go_simp; rfl))
     intro gb302 hg w35 hbox hb
     have BK302 := Aside0.mk (hbox)
     have GW302 := Aside0.mk ((by rw [hg]; exact (below_size (be2x9 HB.out GE261.out GE262.out)) : w.heap.size ≤ gb302))
     have GE302 := Aside0.mk ((by rw [hg]; exact (below_size (be2x9 HB.out GE261.out GE262.out)) : w.heap.size ≤ gb302))
     replace HB := Aside0.mk (below_step (be2x9 HB.out GE261.out GE262.out) hb)
     have NB261_302 := Aside0.mk ((by rw [hg]; exact Nat.ne_of_lt (blk_lt (rBx9 BK261.out)) : gb261 ≠ gb302))
     have NB302_261 := Aside0.mk ((by rw [hg]; exact Nat.ne_of_gt (blk_lt (rBx9 BK261.out)) : gb302 ≠ gb261))
     replace BK261 := Aside0.mk (blk_below (rBx9 BK261.out) hb)
     have NB262_302 := Aside0.mk ((by rw [hg]; exact Nat.ne_of_lt (blk_lt (rBx9 BK262.out)) : gb262 ≠ gb302))
     have NB302_262 := Aside0.mk ((by rw [hg]; exact Nat.ne_of_gt (blk_lt (rBx9 BK262.out)) : gb302 ≠ gb262))
     replace BK262 := Aside0.mk (blk_below (rBx9 BK262.out) hb)
     clear hb hbox hg
     refine hK.out _ _ (ca6x9 BK261.out (cc6x9 BK262.out)) (fun hHeld => ?_)
     clear hK K
     refine norm_ (a' := ?_) ?_ ?_
     rotate_left
     ·show Act.put _ (some 8) _ = _
      simp only [Act.put, List.setIfInBounds_toArray, List.set_cons_zero, List.set_cons_succ, i64_w, i32_w]
      rfl
     refine one_ (i := 1) (N := some 31) #[true, true, true, false, true, false, false, false, false, true, false, false] rfl rfl (one_of HT_.out (by kernel_rfl)) (by decide) (fun K hK => ?_)
     refine goes_ Try.func19 (by kernel_rfl) rfl #[.agg #[.int .i64 a0_0, .int .i64 a0_1, .int .i64 a0_2, .slice A0_3 l0_3.length c0_3, .slice A0_4 l0_4.length c0_4, .slice A0_5 l0_5.length c0_5]] (by rfl) rfl rfl mpx9 ?_
     with_reducible refine (laws_toModel.calls k a0_0 a0_1 a0_2 _ _ l0_3 _ _ l0_4 _ _ l0_5 t265 t266 t267 t268 t271 t274 _ ?side1 ?side2 ?side3 ?side4 ?side5 ?side6 A20.out).mono ?_
     (case side1 => exact rCx9 (Kd.C_below HR0_3.out HB.out))
     (case side2 => exact HC0_3.out)
     (case side3 => exact rCx9 (Kd.C_below HR0_4.out HB.out))
     (case side4 => exact HC0_4.out)
     (case side5 => exact rCx9 (Kd.C_below HR0_5.out HB.out))
     (case side6 => exact HC0_5.out)
     rintro e w36 ⟨v269, v272, v275, rfl, ho0, ho1, ho2, hb⟩
     refine ⟨_, rfl, ?_⟩
     have HO270 := Aside0.mk (Kd.R_lower ho0 (below_size (be3x9 HB.out GE261.out GE262.out GE302.out)))
     have HO273 := Aside0.mk (Kd.R_lower ho1 (below_size (be3x9 HB.out GE261.out GE262.out GE302.out)))
     have HO276 := Aside0.mk (Kd.R_lower ho2 (below_size (be3x9 HB.out GE261.out GE262.out GE302.out)))
     replace BK261 := Aside0.mk (blk_below (rBx9 BK261.out) hb)
     replace BK262 := Aside0.mk (blk_below (rBx9 BK262.out) hb)
     replace BK302 := Aside0.mk (blk_below (rBx9 BK302.out) hb)
     replace HB := Aside0.mk (below_step (be3x9 HB.out GE261.out GE262.out GE302.out) hb)
     (try clear hb)
     (try clear hb2)
     (try clear hk)
     (try clear hi)
     (try clear ho0)
     (try clear ho1)
     (try clear ho2)
     refine hK.out _ _ (ca6x9 BK261.out (cc6x9 BK262.out)) (fun hHeld => ?_)
     clear hK K
     refine norm_ (a' := ?_) ?_ ?_
     rotate_left
     ·show Act.put _ (some 31) _ = _
      simp only [Act.put, List.setIfInBounds_toArray, List.set_cons_zero, List.set_cons_succ, i64_w, i32_w]
      rfl
     refine one_ (i := 3) (N := some 33) #[true, true, true, true, true, false, false, false, false, true, false, false] rfl rfl (one_of HT_.out (by kernel_rfl)) (by decide) (fun K hK => ?_)
     refine goes_ Try.func19 (by kernel_rfl) rfl #[.agg #[.int .i64 a1_0, .int .i64 a1_1, .int .i64 a1_2, .slice A1_3 l1_3.length c1_3, .slice A1_4 l1_4.length c1_4, .slice A1_5 l1_5.length c1_5]] (by rfl) rfl rfl mpx9 ?_
     with_reducible refine (laws_toModel.calls k a1_0 a1_1 a1_2 _ _ l1_3 _ _ l1_4 _ _ l1_5 t277 t278 t279 t280 t283 t286 _ ?side1 ?side2 ?side3 ?side4 ?side5 ?side6 A21.out).mono ?_
     (case side1 => exact rCx9 (Kd.C_below HR1_3.out HB.out))
     (case side2 => exact HC1_3.out)
     (case side3 => exact rCx9 (Kd.C_below HR1_4.out HB.out))
     (case side4 => exact HC1_4.out)
     (case side5 => exact rCx9 (Kd.C_below HR1_5.out HB.out))
     (case side6 => exact HC1_5.out)
     rintro e w37 ⟨v281, v284, v287, rfl, ho0, ho1, ho2, hb⟩
     refine ⟨_, rfl, ?_⟩
     have HO282 := Aside0.mk (Kd.R_lower (nwx9 (nwx9 (nwx9 ho0 (rRx9 HO270.out)) (rRx9 HO273.out)) (rRx9 HO276.out)) (below_size (be3x9 HB.out GE261.out GE262.out GE302.out)))
     have HO285 := Aside0.mk (Kd.R_lower (nwx9 (nwx9 (nwx9 ho1 (rRx9 HO270.out)) (rRx9 HO273.out)) (rRx9 HO276.out)) (below_size (be3x9 HB.out GE261.out GE262.out GE302.out)))
     have HO288 := Aside0.mk (Kd.R_lower (nwx9 (nwx9 (nwx9 ho2 (rRx9 HO270.out)) (rRx9 HO273.out)) (rRx9 HO276.out)) (below_size (be3x9 HB.out GE261.out GE262.out GE302.out)))
     replace HO270 := Aside0.mk (kp3x9 (rRx9 HO270.out) hb ho0 ho1 ho2)
     replace HO273 := Aside0.mk (kp3x9 (rRx9 HO273.out) hb ho0 ho1 ho2)
     replace HO276 := Aside0.mk (kp3x9 (rRx9 HO276.out) hb ho0 ho1 ho2)
     replace BK261 := Aside0.mk (blk_below (rBx9 BK261.out) hb)
     replace BK262 := Aside0.mk (blk_below (rBx9 BK262.out) hb)
     replace BK302 := Aside0.mk (blk_below (rBx9 BK302.out) hb)
     replace HB := Aside0.mk (below_step (be3x9 HB.out GE261.out GE262.out GE302.out) hb)
     (try clear hb)
     (try clear hb2)
     (try clear hk)
     (try clear hi)
     (try clear ho0)
     (try clear ho1)
     (try clear ho2)
     obtain ⟨Ao38, co38, eo38⟩ := Kd.R_slice HO270.out
     (first | subst eo38 | (injection eo38 with f1_ f2_ f3_; have f4_ := f1_.symm; have f5_ := f3_.symm; clear f1_ f2_ f3_; subst f4_; subst f5_))
     obtain ⟨Ao39, co39, eo39⟩ := Kd.R_slice HO273.out
     (first | subst eo39 | (injection eo39 with f1_ f2_ f3_; have f4_ := f1_.symm; have f5_ := f3_.symm; clear f1_ f2_ f3_; subst f4_; subst f5_))
     obtain ⟨Ao40, co40, eo40⟩ := Kd.R_slice HO276.out
     (first | subst eo40 | (injection eo40 with f1_ f2_ f3_; have f4_ := f1_.symm; have f5_ := f3_.symm; clear f1_ f2_ f3_; subst f4_; subst f5_))
     obtain ⟨Ao41, co41, eo41⟩ := Kd.R_slice HO282.out
     (first | subst eo41 | (injection eo41 with f1_ f2_ f3_; have f4_ := f1_.symm; have f5_ := f3_.symm; clear f1_ f2_ f3_; subst f4_; subst f5_))
     obtain ⟨Ao42, co42, eo42⟩ := Kd.R_slice HO285.out
     (first | subst eo42 | (injection eo42 with f1_ f2_ f3_; have f4_ := f1_.symm; have f5_ := f3_.symm; clear f1_ f2_ f3_; subst f4_; subst f5_))
     obtain ⟨Ao43, co43, eo43⟩ := Kd.R_slice HO288.out
     (first | subst eo43 | (injection eo43 with f1_ f2_ f3_; have f4_ := f1_.symm; have f5_ := f3_.symm; clear f1_ f2_ f3_; subst f4_; subst f5_))
     refine hK.out _ _ (ca6x9 BK261.out (cc6x9 BK262.out)) (fun hHeld => ?_)
     clear hK K
     refine norm_ (a' := ?_) ?_ ?_
     rotate_left
     ·show Act.put _ (some 33) _ = _
      simp only [Act.put, List.setIfInBounds_toArray, List.set_cons_zero, List.set_cons_succ, i64_w, i32_w]
      rfl
     refine one_ (i := 5) (N := some 35) #[true, true, true, true, true, true, false, false, false, true, false, false] rfl rfl (one_of HT_.out (by kernel_rfl)) (by decide) (fun K hK => ?_)
     refine goes_ Try.func40 (by kernel_rfl) rfl #[.agg #[.int .i64 t265, .int .i64 t266, .int .i64 t267, .slice Ao38 t268.length co38, .slice Ao39 t271.length co39, .slice Ao40 t274.length co40], .agg #[.int .i64 t277, .int .i64 t278, .int .i64 t279, .slice Ao41 t280.length co41, .slice Ao42 t283.length co42, .slice Ao43 t286.length co43], .int .i64 a2] (by rfl) rfl rfl mpx9 ?_
     with_reducible refine (spec_MixModels.calls k t265 t266 t267 _ _ t268 _ _ t271 _ _ t274 t277 t278 t279 _ _ t280 _ _ t283 _ _ t286 a2 t289 t290 t291 t292 t295 t298 t301 _ ?side1 ?side2 ?side3 ?side4 ?side5 ?side6 ?side7 ?side8 ?side9 ?side10 ?side11 ?side12 A22.out).mono ?_
     (case side1 => exact cRx9 HO270.out)
     (case side2 => exact (Kd.R_reads' HO270.out).2.1)
     (case side3 => exact cRx9 HO273.out)
     (case side4 => exact (Kd.R_reads' HO273.out).2.1)
     (case side5 => exact cRx9 HO276.out)
     (case side6 => exact (Kd.R_reads' HO276.out).2.1)
     (case side7 => exact cRx9 HO282.out)
     (case side8 => exact (Kd.R_reads' HO282.out).2.1)
     (case side9 => exact cRx9 HO285.out)
     (case side10 => exact (Kd.R_reads' HO285.out).2.1)
     (case side11 => exact cRx9 HO288.out)
     (case side12 => exact (Kd.R_reads' HO288.out).2.1)
     rintro e w44 ⟨v293, v296, v299, rfl, ho0, ho1, ho2, hb⟩
     refine ⟨_, rfl, ?_⟩
     have HO294 := Aside0.mk (Kd.R_lower (nwx9 (nwx9 (nwx9 (nwx9 (nwx9 (nwx9 ho0 (rRx9 HO270.out)) (rRx9 HO273.out)) (rRx9 HO276.out)) (rRx9 HO282.out)) (rRx9 HO285.out)) (rRx9 HO288.out)) (below_size (be3x9 HB.out GE261.out GE262.out GE302.out)))
     have HO297 := Aside0.mk (Kd.R_lower (nwx9 (nwx9 (nwx9 (nwx9 (nwx9 (nwx9 ho1 (rRx9 HO270.out)) (rRx9 HO273.out)) (rRx9 HO276.out)) (rRx9 HO282.out)) (rRx9 HO285.out)) (rRx9 HO288.out)) (below_size (be3x9 HB.out GE261.out GE262.out GE302.out)))
     have HO300 := Aside0.mk (Kd.R_lower (nwx9 (nwx9 (nwx9 (nwx9 (nwx9 (nwx9 ho2 (rRx9 HO270.out)) (rRx9 HO273.out)) (rRx9 HO276.out)) (rRx9 HO282.out)) (rRx9 HO285.out)) (rRx9 HO288.out)) (below_size (be3x9 HB.out GE261.out GE262.out GE302.out)))
     replace HO270 := Aside0.mk (kp3x9 (rRx9 HO270.out) hb ho0 ho1 ho2)
     replace HO273 := Aside0.mk (kp3x9 (rRx9 HO273.out) hb ho0 ho1 ho2)
     replace HO276 := Aside0.mk (kp3x9 (rRx9 HO276.out) hb ho0 ho1 ho2)
     replace HO282 := Aside0.mk (kp3x9 (rRx9 HO282.out) hb ho0 ho1 ho2)
     replace HO285 := Aside0.mk (kp3x9 (rRx9 HO285.out) hb ho0 ho1 ho2)
     replace HO288 := Aside0.mk (kp3x9 (rRx9 HO288.out) hb ho0 ho1 ho2)
     replace BK261 := Aside0.mk (blk_below (rBx9 BK261.out) hb)
     replace BK262 := Aside0.mk (blk_below (rBx9 BK262.out) hb)
     replace BK302 := Aside0.mk (blk_below (rBx9 BK302.out) hb)
     replace HB := Aside0.mk (below_step (be3x9 HB.out GE261.out GE262.out GE302.out) hb)
     (try clear hb)
     (try clear hb2)
     (try clear hk)
     (try clear hi)
     (try clear ho0)
     (try clear ho1)
     (try clear ho2)
     refine hK.out _ _ (ca6x9 BK261.out (cc6x9 BK262.out)) (fun hHeld => ?_)
     clear hK K
     refine norm_ (a' := ?_) ?_ ?_
     rotate_left
     ·show Act.put _ (some 35) _ = _
      simp only [Act.put, List.setIfInBounds_toArray, List.set_cons_zero, List.set_cons_succ, i64_w, i32_w]
      rfl
     refine pure_ (i := 6) (N := some 29) (v := ?_) (a' := ?_) #[true, true, true, true, true, true, true, false, false, true, false, false] rfl rfl (any_of HT_.out (by kernel_rfl)) (fun _ _ _ h => h) (Or.inl ⟨by rfl, ?_⟩) ?_ ?_
     rotate_left
     ·intro w'
      go_simp
      with_reducible rfl
     rotate_left
     ·simp only [Act.put, List.setIfInBounds_toArray, List.set_cons_zero, List.set_cons_succ, i64_w, i32_w]
      rfl
     refine pure_ (i := 7) (N := some 36) (v := ?_) (a' := ?_) #[true, true, true, true, true, true, true, true, false, true, false, false] rfl rfl (any_of HT_.out (by kernel_rfl)) (fun _ _ _ h => h) (Or.inl ⟨by rfl, ?_⟩) ?_ ?_
     rotate_left
     ·intro w'
      go_simp
      with_reducible rfl
     rotate_left
     ·simp only [Act.put, List.setIfInBounds_toArray, List.set_cons_zero, List.set_cons_succ, i64_w, i32_w]
      rfl
     refine pure_ (i := 8) (N := some 37) (v := ?_) (a' := ?_) #[true, true, true, true, true, true, true, true, true, true, false, false] rfl rfl (any_of HT_.out (by kernel_rfl)) (fun _ _ _ h => h) (Or.inl ⟨by rfl, ?_⟩) ?_ ?_
     rotate_left
     ·intro w'
      go_simp
      with_reducible rfl
     rotate_left
     ·simp only [Act.put, List.setIfInBounds_toArray, List.set_cons_zero, List.set_cons_succ, i64_w, i32_w]
      rfl
     exact norm_ (by simp only [putAll, Act.put, List.setIfInBounds_toArray, List.set_cons_zero, List.set_cons_succ]) (hCont (.slice Ao38 t268.length co38, .slice Ao39 t271.length co39, .slice Ao40 t274.length co40, .slice Ao41 t280.length co41, .slice Ao42 t283.length co42, .slice Ao43 t286.length co43, v293, v296, v299, gb302) _ ⟨hHeld, (by exact rRx9 (mox9 HO270.out)), (by exact rRx9 (mox9 HO273.out)), (by exact rRx9 (mox9 HO276.out)), (by exact rRx9 (mox9 HO282.out)), (by exact rRx9 (mox9 HO285.out)), (by exact rRx9 (mox9 HO288.out)), (by exact rRx9 (mox9 HO294.out)), (by exact rRx9 (mox9 HO297.out)), (by exact rRx9 (mox9 HO300.out)), (rBx9 BK261.out), (rBx9 BK262.out), (rBx9 BK302.out), GW302.out, GE302.out, NB261_302.out, NB302_261.out, NB262_302.out, NB302_262.out, (be3x9 HB.out GE261.out GE262.out GE302.out)⟩)
   rintro ⟨v269, v272, v275, v281, v284, v287, v293, v296, v299, gb302⟩ w45 ⟨hS_, h0_, h1_, h2_, h3_, h4_, h5_, h6_, h7_, h8_, h9_, h10_, h11_, h12_, h13_, h14_, h15_, h16_, h17_, h18_⟩
   have n0_ : Aside0 (Kd.R (Kd.int .i64) 3 w45 w.heap.size (fun k_ => some k_ ≠ (v272 : Value).ownBlock ∧ some k_ ≠ (v275 : Value).ownBlock ∧ some k_ ≠ (v281 : Value).ownBlock ∧ some k_ ≠ (v284 : Value).ownBlock ∧ some k_ ≠ (v287 : Value).ownBlock ∧ some k_ ≠ (v293 : Value).ownBlock ∧ some k_ ≠ (v296 : Value).ownBlock ∧ some k_ ≠ (v299 : Value).ownBlock) v269 t268) := ⟨h0_⟩
   have n1_ : Aside0 (Kd.R (Kd.int .i64) 3 w45 w.heap.size (fun k_ => some k_ ≠ (v269 : Value).ownBlock ∧ some k_ ≠ (v275 : Value).ownBlock ∧ some k_ ≠ (v281 : Value).ownBlock ∧ some k_ ≠ (v284 : Value).ownBlock ∧ some k_ ≠ (v287 : Value).ownBlock ∧ some k_ ≠ (v293 : Value).ownBlock ∧ some k_ ≠ (v296 : Value).ownBlock ∧ some k_ ≠ (v299 : Value).ownBlock) v272 t271) := ⟨h1_⟩
   have n2_ : Aside0 (Kd.R (Kd.int .i64) 3 w45 w.heap.size (fun k_ => some k_ ≠ (v269 : Value).ownBlock ∧ some k_ ≠ (v272 : Value).ownBlock ∧ some k_ ≠ (v281 : Value).ownBlock ∧ some k_ ≠ (v284 : Value).ownBlock ∧ some k_ ≠ (v287 : Value).ownBlock ∧ some k_ ≠ (v293 : Value).ownBlock ∧ some k_ ≠ (v296 : Value).ownBlock ∧ some k_ ≠ (v299 : Value).ownBlock) v275 t274) := ⟨h2_⟩
   have n3_ : Aside0 (Kd.R (Kd.int .i64) 3 w45 w.heap.size (fun k_ => some k_ ≠ (v269 : Value).ownBlock ∧ some k_ ≠ (v272 : Value).ownBlock ∧ some k_ ≠ (v275 : Value).ownBlock ∧ some k_ ≠ (v284 : Value).ownBlock ∧ some k_ ≠ (v287 : Value).ownBlock ∧ some k_ ≠ (v293 : Value).ownBlock ∧ some k_ ≠ (v296 : Value).ownBlock ∧ some k_ ≠ (v299 : Value).ownBlock) v281 t280) := ⟨h3_⟩
   have n4_ : Aside0 (Kd.R (Kd.int .i64) 3 w45 w.heap.size (fun k_ => some k_ ≠ (v269 : Value).ownBlock ∧ some k_ ≠ (v272 : Value).ownBlock ∧ some k_ ≠ (v275 : Value).ownBlock ∧ some k_ ≠ (v281 : Value).ownBlock ∧ some k_ ≠ (v287 : Value).ownBlock ∧ some k_ ≠ (v293 : Value).ownBlock ∧ some k_ ≠ (v296 : Value).ownBlock ∧ some k_ ≠ (v299 : Value).ownBlock) v284 t283) := ⟨h4_⟩
   have n5_ : Aside0 (Kd.R (Kd.int .i64) 3 w45 w.heap.size (fun k_ => some k_ ≠ (v269 : Value).ownBlock ∧ some k_ ≠ (v272 : Value).ownBlock ∧ some k_ ≠ (v275 : Value).ownBlock ∧ some k_ ≠ (v281 : Value).ownBlock ∧ some k_ ≠ (v284 : Value).ownBlock ∧ some k_ ≠ (v293 : Value).ownBlock ∧ some k_ ≠ (v296 : Value).ownBlock ∧ some k_ ≠ (v299 : Value).ownBlock) v287 t286) := ⟨h5_⟩
   have n6_ : Aside0 (Kd.R (Kd.int .i64) 3 w45 w.heap.size (fun k_ => some k_ ≠ (v269 : Value).ownBlock ∧ some k_ ≠ (v272 : Value).ownBlock ∧ some k_ ≠ (v275 : Value).ownBlock ∧ some k_ ≠ (v281 : Value).ownBlock ∧ some k_ ≠ (v284 : Value).ownBlock ∧ some k_ ≠ (v287 : Value).ownBlock ∧ some k_ ≠ (v296 : Value).ownBlock ∧ some k_ ≠ (v299 : Value).ownBlock) v293 t292) := ⟨h6_⟩
   have n7_ : Aside0 (Kd.R (Kd.int .i64) 3 w45 w.heap.size (fun k_ => some k_ ≠ (v269 : Value).ownBlock ∧ some k_ ≠ (v272 : Value).ownBlock ∧ some k_ ≠ (v275 : Value).ownBlock ∧ some k_ ≠ (v281 : Value).ownBlock ∧ some k_ ≠ (v284 : Value).ownBlock ∧ some k_ ≠ (v287 : Value).ownBlock ∧ some k_ ≠ (v293 : Value).ownBlock ∧ some k_ ≠ (v299 : Value).ownBlock) v296 t295) := ⟨h7_⟩
   have n8_ : Aside0 (Kd.R (Kd.int .i64) 3 w45 w.heap.size (fun k_ => some k_ ≠ (v269 : Value).ownBlock ∧ some k_ ≠ (v272 : Value).ownBlock ∧ some k_ ≠ (v275 : Value).ownBlock ∧ some k_ ≠ (v281 : Value).ownBlock ∧ some k_ ≠ (v284 : Value).ownBlock ∧ some k_ ≠ (v287 : Value).ownBlock ∧ some k_ ≠ (v293 : Value).ownBlock ∧ some k_ ≠ (v296 : Value).ownBlock) v299 t298) := ⟨h8_⟩
   have n9_ : Aside0 (w45.heap[gb261]? = some (.cells #[.int .i64 a0_0, .int .i64 a0_1, .int .i64 a0_2, .slice A0_3 l0_3.length c0_3, .slice A0_4 l0_4.length c0_4, .slice A0_5 l0_5.length c0_5] 26 (0, 0))) := ⟨h9_⟩
   have n10_ : Aside0 (w45.heap[gb262]? = some (.cells #[.int .i64 a1_0, .int .i64 a1_1, .int .i64 a1_2, .slice A1_3 l1_3.length c1_3, .slice A1_4 l1_4.length c1_4, .slice A1_5 l1_5.length c1_5] 26 (0, 0))) := ⟨h10_⟩
   have n11_ : Aside0 (w45.heap[gb302]? = some (.cells #[.int .i64 0, .int .i64 0, .int .i64 0, .slice none 0 0, .slice none 0 0, .slice none 0 0] 41 (0, 0))) := ⟨h11_⟩
   have n12_ : Aside0 (w.heap.size ≤ gb302) := ⟨h12_⟩
   have n13_ : Aside0 (w.heap.size ≤ gb302) := ⟨h13_⟩
   have n14_ : Aside0 (gb261 ≠ gb302) := ⟨h14_⟩
   have n15_ : Aside0 (gb302 ≠ gb261) := ⟨h15_⟩
   have n16_ : Aside0 (gb262 ≠ gb302) := ⟨h16_⟩
   have n17_ : Aside0 (gb302 ≠ gb262) := ⟨h17_⟩
   have n18_ : Aside0 (Below w.heap.size w w45) := ⟨h18_⟩
   clear BK261 BK262 HB h0_ h1_ h2_ h3_ h4_ h5_ h6_ h7_ h8_ h9_ h10_ h11_ h12_ h13_ h14_ h15_ h16_ h17_ h18_
   have HO270 := n0_
   have HO273 := n1_
   have HO276 := n2_
   have HO282 := n3_
   have HO285 := n4_
   have HO288 := n5_
   have HO294 := n6_
   have HO297 := n7_
   have HO300 := n8_
   have BK261 := n9_
   have BK262 := n10_
   have BK302 := n11_
   have GW302 := n12_
   have GE302 := n13_
   have NB261_302 := n14_
   have NB302_261 := n15_
   have NB262_302 := n16_
   have NB302_262 := n17_
   have HB := n18_
   clear n0_ n1_ n2_ n3_ n4_ n5_ n6_ n7_ n8_ n9_ n10_ n11_ n12_ n13_ n14_ n15_ n16_ n17_ n18_
   have hHeld : w45.cell? ⟨gb261, 0, none⟩ = some (.int .i64 a0_0) ∧ w45.cell? ⟨gb261, 1, none⟩ = some (.int .i64 a0_1) ∧ w45.cell? ⟨gb261, 2, none⟩ = some (.int .i64 a0_2) ∧ w45.cell? ⟨gb261, 3, none⟩ = some (.slice A0_3 l0_3.length c0_3) ∧ w45.cell? ⟨gb261, 4, none⟩ = some (.slice A0_4 l0_4.length c0_4) ∧ w45.cell? ⟨gb261, 5, none⟩ = some (.slice A0_5 l0_5.length c0_5) ∧ w45.cell? ⟨gb262, 0, none⟩ = some (.int .i64 a1_0) ∧ w45.cell? ⟨gb262, 1, none⟩ = some (.int .i64 a1_1) ∧ w45.cell? ⟨gb262, 2, none⟩ = some (.int .i64 a1_2) ∧ w45.cell? ⟨gb262, 3, none⟩ = some (.slice A1_3 l1_3.length c1_3) ∧ w45.cell? ⟨gb262, 4, none⟩ = some (.slice A1_4 l1_4.length c1_4) ∧ w45.cell? ⟨gb262, 5, none⟩ = some (.slice A1_5 l1_5.length c1_5) := hS_
   obtain ⟨Ao49, co49, eo49⟩ := Kd.R_slice HO294.out
   (first | subst eo49 | (injection eo49 with f1_ f2_ f3_; have f4_ := f1_.symm; have f5_ := f3_.symm; clear f1_ f2_ f3_; subst f4_; subst f5_))
   obtain ⟨Ao51, co51, eo51⟩ := Kd.R_slice HO297.out
   (first | subst eo51 | (injection eo51 with f1_ f2_ f3_; have f4_ := f1_.symm; have f5_ := f3_.symm; clear f1_ f2_ f3_; subst f4_; subst f5_))
   obtain ⟨Ao53, co53, eo53⟩ := Kd.R_slice HO300.out
   (first | subst eo53 | (injection eo53 with f1_ f2_ f3_; have f4_ := f1_.symm; have f5_ := f3_.symm; clear f1_ f2_ f3_; subst f4_; subst f5_))
   refine norm_ (a' := ?_) ?_ ?_
   rotate_left
   ·simp only [putAll, Act.put, List.setIfInBounds_toArray, List.set_cons_zero, List.set_cons_succ]
    rfl
   refine one_ (i := 10) (N := none) #[true, true, true, true, true, true, true, true, true, true, true, false] rfl rfl (one_of HT_.out (by kernel_rfl)) (by decide) (fun K hK => ?_)
   have hs46 : w45.cell? ⟨gb302, 0, none⟩ = some (.int .i64 0) := (blk_cell BK302.out 0).trans rfl
   have hfs46 := blk_frozen BK302.out 0
   have hns46_0 := NB261_302.out
   have hns46_1 := NB262_302.out
   have hms46_0 := NB302_261.out
   have hms46_1 := NB302_262.out
   have hs47 : w45.cell? ⟨gb302, 1, none⟩ = some (.int .i64 0) := (blk_cell BK302.out 1).trans rfl
   have hfs47 := blk_frozen BK302.out 1
   have hns47_0 := NB261_302.out
   have hns47_1 := NB262_302.out
   have hms47_0 := NB302_261.out
   have hms47_1 := NB302_262.out
   have hs48 : w45.cell? ⟨gb302, 2, none⟩ = some (.int .i64 0) := (blk_cell BK302.out 2).trans rfl
   have hfs48 := blk_frozen BK302.out 2
   have hns48_0 := NB261_302.out
   have hns48_1 := NB262_302.out
   have hms48_0 := NB302_261.out
   have hms48_1 := NB302_262.out
   have hs50 : w45.cell? ⟨gb302, 3, none⟩ = some (.slice none 0 0) := (blk_cell BK302.out 3).trans rfl
   have hfs50 := blk_frozen BK302.out 3
   have hns50_0 := NB261_302.out
   have hns50_1 := NB262_302.out
   have hms50_0 := NB302_261.out
   have hms50_1 := NB302_262.out
   have hs52 : w45.cell? ⟨gb302, 4, none⟩ = some (.slice none 0 0) := (blk_cell BK302.out 4).trans rfl
   have hfs52 := blk_frozen BK302.out 4
   have hns52_0 := NB261_302.out
   have hns52_1 := NB262_302.out
   have hms52_0 := NB302_261.out
   have hms52_1 := NB302_262.out
   have hs54 : w45.cell? ⟨gb302, 5, none⟩ = some (.slice none 0 0) := (blk_cell BK302.out 5).trans rfl
   have hfs54 := blk_frozen BK302.out 5
   have hns54_0 := NB261_302.out
   have hns54_1 := NB262_302.out
   have hms54_0 := NB302_261.out
   have hms54_1 := NB302_262.out
   refine skip_ (w1 := ?_) (by rfl) rfl ?_ ?_
   rotate_left
   ·go_simp
    rfl
   refine hK.out _ _ ⟨((cell_far (p := ⟨gb302, _, none⟩) NB261_302.out _).trans (((cell_far (p := ⟨gb302, _, none⟩) NB261_302.out _).trans (((cell_far (p := ⟨gb302, _, none⟩) NB261_302.out _).trans (((cell_far (p := ⟨gb302, _, none⟩) NB261_302.out _).trans (((cell_far (p := ⟨gb302, _, none⟩) NB261_302.out _).trans (((cell_far (p := ⟨gb302, _, none⟩) NB261_302.out _).trans (hHeld.1)))))))))))), ((cell_far (p := ⟨gb302, _, none⟩) NB261_302.out _).trans (((cell_far (p := ⟨gb302, _, none⟩) NB261_302.out _).trans (((cell_far (p := ⟨gb302, _, none⟩) NB261_302.out _).trans (((cell_far (p := ⟨gb302, _, none⟩) NB261_302.out _).trans (((cell_far (p := ⟨gb302, _, none⟩) NB261_302.out _).trans (((cell_far (p := ⟨gb302, _, none⟩) NB261_302.out _).trans (hHeld.2.1)))))))))))), ((cell_far (p := ⟨gb302, _, none⟩) NB261_302.out _).trans (((cell_far (p := ⟨gb302, _, none⟩) NB261_302.out _).trans (((cell_far (p := ⟨gb302, _, none⟩) NB261_302.out _).trans (((cell_far (p := ⟨gb302, _, none⟩) NB261_302.out _).trans (((cell_far (p := ⟨gb302, _, none⟩) NB261_302.out _).trans (((cell_far (p := ⟨gb302, _, none⟩) NB261_302.out _).trans (hHeld.2.2.1)))))))))))), ((cell_far (p := ⟨gb302, _, none⟩) NB261_302.out _).trans (((cell_far (p := ⟨gb302, _, none⟩) NB261_302.out _).trans (((cell_far (p := ⟨gb302, _, none⟩) NB261_302.out _).trans (((cell_far (p := ⟨gb302, _, none⟩) NB261_302.out _).trans (((cell_far (p := ⟨gb302, _, none⟩) NB261_302.out _).trans (((cell_far (p := ⟨gb302, _, none⟩) NB261_302.out _).trans (hHeld.2.2.2.1)))))))))))), ((cell_far (p := ⟨gb302, _, none⟩) NB261_302.out _).trans (((cell_far (p := ⟨gb302, _, none⟩) NB261_302.out _).trans (((cell_far (p := ⟨gb302, _, none⟩) NB261_302.out _).trans (((cell_far (p := ⟨gb302, _, none⟩) NB261_302.out _).trans (((cell_far (p := ⟨gb302, _, none⟩) NB261_302.out _).trans (((cell_far (p := ⟨gb302, _, none⟩) NB261_302.out _).trans (hHeld.2.2.2.2.1)))))))))))), ((cell_far (p := ⟨gb302, _, none⟩) NB261_302.out _).trans (((cell_far (p := ⟨gb302, _, none⟩) NB261_302.out _).trans (((cell_far (p := ⟨gb302, _, none⟩) NB261_302.out _).trans (((cell_far (p := ⟨gb302, _, none⟩) NB261_302.out _).trans (((cell_far (p := ⟨gb302, _, none⟩) NB261_302.out _).trans (((cell_far (p := ⟨gb302, _, none⟩) NB261_302.out _).trans (hHeld.2.2.2.2.2.1)))))))))))), ((cell_far (p := ⟨gb302, _, none⟩) NB262_302.out _).trans (((cell_far (p := ⟨gb302, _, none⟩) NB262_302.out _).trans (((cell_far (p := ⟨gb302, _, none⟩) NB262_302.out _).trans (((cell_far (p := ⟨gb302, _, none⟩) NB262_302.out _).trans (((cell_far (p := ⟨gb302, _, none⟩) NB262_302.out _).trans (((cell_far (p := ⟨gb302, _, none⟩) NB262_302.out _).trans (hHeld.2.2.2.2.2.2.1)))))))))))), ((cell_far (p := ⟨gb302, _, none⟩) NB262_302.out _).trans (((cell_far (p := ⟨gb302, _, none⟩) NB262_302.out _).trans (((cell_far (p := ⟨gb302, _, none⟩) NB262_302.out _).trans (((cell_far (p := ⟨gb302, _, none⟩) NB262_302.out _).trans (((cell_far (p := ⟨gb302, _, none⟩) NB262_302.out _).trans (((cell_far (p := ⟨gb302, _, none⟩) NB262_302.out _).trans (hHeld.2.2.2.2.2.2.2.1)))))))))))), ((cell_far (p := ⟨gb302, _, none⟩) NB262_302.out _).trans (((cell_far (p := ⟨gb302, _, none⟩) NB262_302.out _).trans (((cell_far (p := ⟨gb302, _, none⟩) NB262_302.out _).trans (((cell_far (p := ⟨gb302, _, none⟩) NB262_302.out _).trans (((cell_far (p := ⟨gb302, _, none⟩) NB262_302.out _).trans (((cell_far (p := ⟨gb302, _, none⟩) NB262_302.out _).trans (hHeld.2.2.2.2.2.2.2.2.1)))))))))))), ((cell_far (p := ⟨gb302, _, none⟩) NB262_302.out _).trans (((cell_far (p := ⟨gb302, _, none⟩) NB262_302.out _).trans (((cell_far (p := ⟨gb302, _, none⟩) NB262_302.out _).trans (((cell_far (p := ⟨gb302, _, none⟩) NB262_302.out _).trans (((cell_far (p := ⟨gb302, _, none⟩) NB262_302.out _).trans (((cell_far (p := ⟨gb302, _, none⟩) NB262_302.out _).trans (hHeld.2.2.2.2.2.2.2.2.2.1)))))))))))), ((cell_far (p := ⟨gb302, _, none⟩) NB262_302.out _).trans (((cell_far (p := ⟨gb302, _, none⟩) NB262_302.out _).trans (((cell_far (p := ⟨gb302, _, none⟩) NB262_302.out _).trans (((cell_far (p := ⟨gb302, _, none⟩) NB262_302.out _).trans (((cell_far (p := ⟨gb302, _, none⟩) NB262_302.out _).trans (((cell_far (p := ⟨gb302, _, none⟩) NB262_302.out _).trans (hHeld.2.2.2.2.2.2.2.2.2.2.1)))))))))))), ((cell_far (p := ⟨gb302, _, none⟩) NB262_302.out _).trans (((cell_far (p := ⟨gb302, _, none⟩) NB262_302.out _).trans (((cell_far (p := ⟨gb302, _, none⟩) NB262_302.out _).trans (((cell_far (p := ⟨gb302, _, none⟩) NB262_302.out _).trans (((cell_far (p := ⟨gb302, _, none⟩) NB262_302.out _).trans (((cell_far (p := ⟨gb302, _, none⟩) NB262_302.out _).trans (hHeld.2.2.2.2.2.2.2.2.2.2.2))))))))))))⟩ (fun hHeld => ?_)
   clear hK K
   refine pure_ (i := 11) (N := some 9) (v := ?_) (a' := ?_) #[true, true, true, true, true, true, true, true, true, true, true, true] rfl rfl (any_of HT_.out (by kernel_rfl)) (fun _ _ _ h => h) (Or.inl ⟨by rfl, ?_⟩) ?_ ?_
   rotate_left
   ·intro w'
    go_simp
    with_reducible rfl
   rotate_left
   ·simp only [Act.put, List.setIfInBounds_toArray, List.set_cons_zero, List.set_cons_succ, i64_w, i32_w]
    rfl
   refine done_ (done_of HT_.out (by kernel_rfl)) ?_
   have hnb55 := NB261_302.out
   have hnc55 := NB302_261.out
   obtain ⟨hcz56_0, hcz56_1, hcz56_2, hcz56_3, hcz56_4, hcz56_5, hfz56_0, hfz56_1, hfz56_2, hfz56_3, hfz56_4, hfz56_5⟩ := cf6x9 BK261.out
   go_upto_region 12 with (first | ((with_reducible refine gate_callee (f := 19) rfl ?_); refine goesL_ (some 39) rfl rfl Try.func19 (by kernel_rfl) rfl #[.agg #[.int .i64 a0_0, .int .i64 a0_1, .int .i64 a0_2, .slice A0_3 l0_3.length c0_3, .slice A0_4 l0_4.length c0_4, .slice A0_5 l0_5.length c0_5]] rfl mpx9 ?_; (with_reducible refine (laws_toModel.calls k a0_0 a0_1 a0_2 _ _ l0_3 _ _ l0_4 _ _ l0_5 t303 t304 t305 t306 t309 t312 _ ?side1 ?side2 ?side3 ?side4 ?side5 ?side6 A23.out).mono ?_); (case side1 => exact Kd.C_below HR0_3.out (be3x9 HB.out GE261.out GE262.out GE302.out)); (case side2 => exact HC0_3.out); (case side3 => exact Kd.C_below HR0_4.out (be3x9 HB.out GE261.out GE262.out GE302.out)); (case side4 => exact HC0_4.out); (case side5 => exact Kd.C_below HR0_5.out (be3x9 HB.out GE261.out GE262.out GE302.out)); (case side6 => exact HC0_5.out); rintro e w57 ⟨v307, v310, v313, rfl, ho0, ho1, ho2, hb⟩; refine ⟨_, rfl, ?_⟩; have HO308 := Aside0.mk (Kd.R_lower (nwx9 (nwx9 (nwx9 (nwx9 (nwx9 (nwx9 (nwx9 (nwx9 (nwx9 ho0 (sR6x9 HO270.out BK302.out)) (sR6x9 HO273.out BK302.out)) (sR6x9 HO276.out BK302.out)) (sR6x9 HO282.out BK302.out)) (sR6x9 HO285.out BK302.out)) (sR6x9 HO288.out BK302.out)) (sR6x9 HO294.out BK302.out)) (sR6x9 HO297.out BK302.out)) (sR6x9 HO300.out BK302.out)) (below_size (be3x9 HB.out GE261.out GE262.out GE302.out))); have HO311 := Aside0.mk (Kd.R_lower (nwx9 (nwx9 (nwx9 (nwx9 (nwx9 (nwx9 (nwx9 (nwx9 (nwx9 ho1 (sR6x9 HO270.out BK302.out)) (sR6x9 HO273.out BK302.out)) (sR6x9 HO276.out BK302.out)) (sR6x9 HO282.out BK302.out)) (sR6x9 HO285.out BK302.out)) (sR6x9 HO288.out BK302.out)) (sR6x9 HO294.out BK302.out)) (sR6x9 HO297.out BK302.out)) (sR6x9 HO300.out BK302.out)) (below_size (be3x9 HB.out GE261.out GE262.out GE302.out))); have HO314 := Aside0.mk (Kd.R_lower (nwx9 (nwx9 (nwx9 (nwx9 (nwx9 (nwx9 (nwx9 (nwx9 (nwx9 ho2 (sR6x9 HO270.out BK302.out)) (sR6x9 HO273.out BK302.out)) (sR6x9 HO276.out BK302.out)) (sR6x9 HO282.out BK302.out)) (sR6x9 HO285.out BK302.out)) (sR6x9 HO288.out BK302.out)) (sR6x9 HO294.out BK302.out)) (sR6x9 HO297.out BK302.out)) (sR6x9 HO300.out BK302.out)) (below_size (be3x9 HB.out GE261.out GE262.out GE302.out))); replace HO270 := Aside0.mk (kp3x9 (sR6x9 HO270.out BK302.out) hb ho0 ho1 ho2); replace HO273 := Aside0.mk (kp3x9 (sR6x9 HO273.out BK302.out) hb ho0 ho1 ho2); replace HO276 := Aside0.mk (kp3x9 (sR6x9 HO276.out BK302.out) hb ho0 ho1 ho2); replace HO282 := Aside0.mk (kp3x9 (sR6x9 HO282.out BK302.out) hb ho0 ho1 ho2); replace HO285 := Aside0.mk (kp3x9 (sR6x9 HO285.out BK302.out) hb ho0 ho1 ho2); replace HO288 := Aside0.mk (kp3x9 (sR6x9 HO288.out BK302.out) hb ho0 ho1 ho2); replace HO294 := Aside0.mk (kp3x9 (sR6x9 HO294.out BK302.out) hb ho0 ho1 ho2); replace HO297 := Aside0.mk (kp3x9 (sR6x9 HO297.out BK302.out) hb ho0 ho1 ho2); replace HO300 := Aside0.mk (kp3x9 (sR6x9 HO300.out BK302.out) hb ho0 ho1 ho2); replace BK261 := Aside0.mk (blk_below (bb6x9 BK261.out NB261_302.out) hb); replace BK262 := Aside0.mk (blk_below (bb6x9 BK262.out NB262_302.out) hb); replace BK302 := Aside0.mk (blk_below (g := gb302) (o := .cells #[.int .i64 t289, .int .i64 t290, .int .i64 t291, .slice Ao49 t292.length co49, .slice Ao51 t295.length co51, .slice Ao53 t298.length co53] 41 (0, 0)) (by (with_reducible repeat (first | refine blk_drewN ?_ _ | refine blk_drew ?_ | refine blk_alloc ?_ _)); refine blk_put (cs := #[.int .i64 t289, .int .i64 t290, .int .i64 t291, .slice Ao49 t292.length co49, .slice Ao51 t295.length co51, .slice none 0 0]) ?_ 5 _ rfl; (with_reducible repeat (first | refine blk_drewN ?_ _ | refine blk_drew ?_ | refine blk_alloc ?_ _)); refine blk_put (cs := #[.int .i64 t289, .int .i64 t290, .int .i64 t291, .slice Ao49 t292.length co49, .slice none 0 0, .slice none 0 0]) ?_ 4 _ rfl; (with_reducible repeat (first | refine blk_drewN ?_ _ | refine blk_drew ?_ | refine blk_alloc ?_ _)); refine blk_put (cs := #[.int .i64 t289, .int .i64 t290, .int .i64 t291, .slice none 0 0, .slice none 0 0, .slice none 0 0]) ?_ 3 _ rfl; (with_reducible repeat (first | refine blk_drewN ?_ _ | refine blk_drew ?_ | refine blk_alloc ?_ _)); refine blk_put (cs := #[.int .i64 t289, .int .i64 t290, .int .i64 0, .slice none 0 0, .slice none 0 0, .slice none 0 0]) ?_ 2 _ rfl; (with_reducible repeat (first | refine blk_drewN ?_ _ | refine blk_drew ?_ | refine blk_alloc ?_ _)); refine blk_put (cs := #[.int .i64 t289, .int .i64 0, .int .i64 0, .slice none 0 0, .slice none 0 0, .slice none 0 0]) ?_ 1 _ rfl; (with_reducible repeat (first | refine blk_drewN ?_ _ | refine blk_drew ?_ | refine blk_alloc ?_ _)); refine blk_put (cs := #[.int .i64 0, .int .i64 0, .int .i64 0, .slice none 0 0, .slice none 0 0, .slice none 0 0]) ?_ 0 _ rfl; (with_reducible repeat (first | refine blk_drewN ?_ _ | refine blk_drew ?_ | refine blk_alloc ?_ _)); exact BK302.out) hb); replace HB := Aside0.mk (below_step (be3x9 HB.out GE261.out GE262.out GE302.out) hb); (try clear hb); (try clear hb2); (try clear hk); (try clear hi); (try clear ho0); (try clear ho1); (try clear ho2)) | ((with_reducible refine gate_dst (N := 10) rfl ?_); refine box_event ?hg (N := 10) ?hd (cs := #[.int .i64 0, .int .i64 0, .int .i64 0, .slice none 0 0, .slice none 0 0, .slice none 0 0]) (t := 41) ?hr ?_; (case hd => rfl); (case hg => rfl); (case hr => first | (go_simp; done) | (go_simp; rfl)); intro gb315 hg w58 hbox hb; replace HO270 := Aside0.mk (Kd.R_below (rRx9 HO270.out) hb); replace HO273 := Aside0.mk (Kd.R_below (rRx9 HO273.out) hb); replace HO276 := Aside0.mk (Kd.R_below (rRx9 HO276.out) hb); replace HO282 := Aside0.mk (Kd.R_below (rRx9 HO282.out) hb); replace HO285 := Aside0.mk (Kd.R_below (rRx9 HO285.out) hb); replace HO288 := Aside0.mk (Kd.R_below (rRx9 HO288.out) hb); replace HO294 := Aside0.mk (Kd.R_below (rRx9 HO294.out) hb); replace HO297 := Aside0.mk (Kd.R_below (rRx9 HO297.out) hb); replace HO300 := Aside0.mk (Kd.R_below (rRx9 HO300.out) hb); replace HO308 := Aside0.mk (Kd.R_below (rRx9 HO308.out) hb); replace HO311 := Aside0.mk (Kd.R_below (rRx9 HO311.out) hb); replace HO314 := Aside0.mk (Kd.R_below (rRx9 HO314.out) hb); have BK315 := Aside0.mk (hbox); have GW315 := Aside0.mk ((by rw [hg]; exact (below_size (be3x9 HB.out GE261.out GE262.out GE302.out)) : w.heap.size ≤ gb315)); have GE315 := Aside0.mk ((by rw [hg]; exact (below_size (be3x9 HB.out GE261.out GE262.out GE302.out)) : w.heap.size ≤ gb315)); replace HB := Aside0.mk (below_step (be3x9 HB.out GE261.out GE262.out GE302.out) hb); have NB261_315 := Aside0.mk ((by rw [hg]; exact Nat.ne_of_lt (blk_lt (rBx9 BK261.out)) : gb261 ≠ gb315)); have NB315_261 := Aside0.mk ((by rw [hg]; exact Nat.ne_of_gt (blk_lt (rBx9 BK261.out)) : gb315 ≠ gb261)); replace BK261 := Aside0.mk (blk_below (rBx9 BK261.out) hb); have NB262_315 := Aside0.mk ((by rw [hg]; exact Nat.ne_of_lt (blk_lt (rBx9 BK262.out)) : gb262 ≠ gb315)); have NB315_262 := Aside0.mk ((by rw [hg]; exact Nat.ne_of_gt (blk_lt (rBx9 BK262.out)) : gb315 ≠ gb262)); replace BK262 := Aside0.mk (blk_below (rBx9 BK262.out) hb); have NB302_315 := Aside0.mk ((by rw [hg]; exact Nat.ne_of_lt (blk_lt (rBx9 BK302.out)) : gb302 ≠ gb315)); have NB315_302 := Aside0.mk ((by rw [hg]; exact Nat.ne_of_gt (blk_lt (rBx9 BK302.out)) : gb315 ≠ gb302)); replace BK302 := Aside0.mk (blk_below (rBx9 BK302.out) hb); clear hb hbox hg; have hnb59 := NB315_261.out; have hnc59 := NB261_315.out; have hnb60 := NB315_262.out; have hnc60 := NB262_315.out; have hnb61 := NB315_302.out; have hnc61 := NB302_315.out; obtain ⟨hcz62_0, hcz62_1, hcz62_2, hcz62_3, hcz62_4, hcz62_5, hfz62_0, hfz62_1, hfz62_2, hfz62_3, hfz62_4, hfz62_5⟩ := cf6x9 BK315.out; obtain ⟨Ao63, co63, eo63⟩ := Kd.R_slice HO308.out; subst eo63; obtain ⟨Ao64, co64, eo64⟩ := Kd.R_slice HO311.out; subst eo64; obtain ⟨Ao65, co65, eo65⟩ := Kd.R_slice HO314.out; subst eo65; have hnb66 := NB262_302.out; have hnc66 := NB302_262.out; obtain ⟨hcz67_0, hcz67_1, hcz67_2, hcz67_3, hcz67_4, hcz67_5, hfz67_0, hfz67_1, hfz67_2, hfz67_3, hfz67_4, hfz67_5⟩ := cf6x9 BK262.out) | ((with_reducible refine gate_callee (f := 19) rfl ?_); refine goesL_ (some 41) rfl rfl Try.func19 (by kernel_rfl) rfl #[.agg #[.int .i64 a1_0, .int .i64 a1_1, .int .i64 a1_2, .slice A1_3 l1_3.length c1_3, .slice A1_4 l1_4.length c1_4, .slice A1_5 l1_5.length c1_5]] rfl mpx9 ?_; (with_reducible refine (laws_toModel.calls k a1_0 a1_1 a1_2 _ _ l1_3 _ _ l1_4 _ _ l1_5 t316 t317 t318 t319 t322 t325 _ ?side1 ?side2 ?side3 ?side4 ?side5 ?side6 A24.out).mono ?_); (case side1 => exact Kd.C_below HR1_3.out (be4x9 HB.out GE261.out GE262.out GE302.out GE315.out)); (case side2 => exact HC1_3.out); (case side3 => exact Kd.C_below HR1_4.out (be4x9 HB.out GE261.out GE262.out GE302.out GE315.out)); (case side4 => exact HC1_4.out); (case side5 => exact Kd.C_below HR1_5.out (be4x9 HB.out GE261.out GE262.out GE302.out GE315.out)); (case side6 => exact HC1_5.out); rintro e w68 ⟨v320, v323, v326, rfl, ho0, ho1, ho2, hb⟩; refine ⟨_, rfl, ?_⟩; have HO321 := Aside0.mk (Kd.R_lower (nwx9 (nwx9 (nwx9 (nwx9 (nwx9 (nwx9 (nwx9 (nwx9 (nwx9 (nwx9 (nwx9 (nwx9 ho0 (sR6x9 HO270.out BK315.out)) (sR6x9 HO273.out BK315.out)) (sR6x9 HO276.out BK315.out)) (sR6x9 HO282.out BK315.out)) (sR6x9 HO285.out BK315.out)) (sR6x9 HO288.out BK315.out)) (sR6x9 HO294.out BK315.out)) (sR6x9 HO297.out BK315.out)) (sR6x9 HO300.out BK315.out)) (sR6x9 HO308.out BK315.out)) (sR6x9 HO311.out BK315.out)) (sR6x9 HO314.out BK315.out)) (below_size (be4x9 HB.out GE261.out GE262.out GE302.out GE315.out))); have HO324 := Aside0.mk (Kd.R_lower (nwx9 (nwx9 (nwx9 (nwx9 (nwx9 (nwx9 (nwx9 (nwx9 (nwx9 (nwx9 (nwx9 (nwx9 ho1 (sR6x9 HO270.out BK315.out)) (sR6x9 HO273.out BK315.out)) (sR6x9 HO276.out BK315.out)) (sR6x9 HO282.out BK315.out)) (sR6x9 HO285.out BK315.out)) (sR6x9 HO288.out BK315.out)) (sR6x9 HO294.out BK315.out)) (sR6x9 HO297.out BK315.out)) (sR6x9 HO300.out BK315.out)) (sR6x9 HO308.out BK315.out)) (sR6x9 HO311.out BK315.out)) (sR6x9 HO314.out BK315.out)) (below_size (be4x9 HB.out GE261.out GE262.out GE302.out GE315.out))); have HO327 := Aside0.mk (Kd.R_lower (nwx9 (nwx9 (nwx9 (nwx9 (nwx9 (nwx9 (nwx9 (nwx9 (nwx9 (nwx9 (nwx9 (nwx9 ho2 (sR6x9 HO270.out BK315.out)) (sR6x9 HO273.out BK315.out)) (sR6x9 HO276.out BK315.out)) (sR6x9 HO282.out BK315.out)) (sR6x9 HO285.out BK315.out)) (sR6x9 HO288.out BK315.out)) (sR6x9 HO294.out BK315.out)) (sR6x9 HO297.out BK315.out)) (sR6x9 HO300.out BK315.out)) (sR6x9 HO308.out BK315.out)) (sR6x9 HO311.out BK315.out)) (sR6x9 HO314.out BK315.out)) (below_size (be4x9 HB.out GE261.out GE262.out GE302.out GE315.out))); replace HO270 := Aside0.mk (kp3x9 (sR6x9 HO270.out BK315.out) hb ho0 ho1 ho2); replace HO273 := Aside0.mk (kp3x9 (sR6x9 HO273.out BK315.out) hb ho0 ho1 ho2); replace HO276 := Aside0.mk (kp3x9 (sR6x9 HO276.out BK315.out) hb ho0 ho1 ho2); replace HO282 := Aside0.mk (kp3x9 (sR6x9 HO282.out BK315.out) hb ho0 ho1 ho2); replace HO285 := Aside0.mk (kp3x9 (sR6x9 HO285.out BK315.out) hb ho0 ho1 ho2); replace HO288 := Aside0.mk (kp3x9 (sR6x9 HO288.out BK315.out) hb ho0 ho1 ho2); replace HO294 := Aside0.mk (kp3x9 (sR6x9 HO294.out BK315.out) hb ho0 ho1 ho2); replace HO297 := Aside0.mk (kp3x9 (sR6x9 HO297.out BK315.out) hb ho0 ho1 ho2); replace HO300 := Aside0.mk (kp3x9 (sR6x9 HO300.out BK315.out) hb ho0 ho1 ho2); replace HO308 := Aside0.mk (kp3x9 (sR6x9 HO308.out BK315.out) hb ho0 ho1 ho2); replace HO311 := Aside0.mk (kp3x9 (sR6x9 HO311.out BK315.out) hb ho0 ho1 ho2); replace HO314 := Aside0.mk (kp3x9 (sR6x9 HO314.out BK315.out) hb ho0 ho1 ho2); replace BK261 := Aside0.mk (blk_below (bb6x9 BK261.out NB261_315.out) hb); replace BK262 := Aside0.mk (blk_below (bb6x9 BK262.out NB262_315.out) hb); replace BK302 := Aside0.mk (blk_below (bb6x9 BK302.out NB302_315.out) hb); replace BK315 := Aside0.mk (blk_below (g := gb315) (o := .cells #[.int .i64 t303, .int .i64 t304, .int .i64 t305, .slice Ao63 t306.length co63, .slice Ao64 t309.length co64, .slice Ao65 t312.length co65] 41 (0, 0)) (by (with_reducible repeat (first | refine blk_drewN ?_ _ | refine blk_drew ?_ | refine blk_alloc ?_ _)); refine blk_put (cs := #[.int .i64 t303, .int .i64 t304, .int .i64 t305, .slice Ao63 t306.length co63, .slice Ao64 t309.length co64, .slice none 0 0]) ?_ 5 _ rfl; (with_reducible repeat (first | refine blk_drewN ?_ _ | refine blk_drew ?_ | refine blk_alloc ?_ _)); refine blk_put (cs := #[.int .i64 t303, .int .i64 t304, .int .i64 t305, .slice Ao63 t306.length co63, .slice none 0 0, .slice none 0 0]) ?_ 4 _ rfl; (with_reducible repeat (first | refine blk_drewN ?_ _ | refine blk_drew ?_ | refine blk_alloc ?_ _)); refine blk_put (cs := #[.int .i64 t303, .int .i64 t304, .int .i64 t305, .slice none 0 0, .slice none 0 0, .slice none 0 0]) ?_ 3 _ rfl; (with_reducible repeat (first | refine blk_drewN ?_ _ | refine blk_drew ?_ | refine blk_alloc ?_ _)); refine blk_put (cs := #[.int .i64 t303, .int .i64 t304, .int .i64 0, .slice none 0 0, .slice none 0 0, .slice none 0 0]) ?_ 2 _ rfl; (with_reducible repeat (first | refine blk_drewN ?_ _ | refine blk_drew ?_ | refine blk_alloc ?_ _)); refine blk_put (cs := #[.int .i64 t303, .int .i64 0, .int .i64 0, .slice none 0 0, .slice none 0 0, .slice none 0 0]) ?_ 1 _ rfl; (with_reducible repeat (first | refine blk_drewN ?_ _ | refine blk_drew ?_ | refine blk_alloc ?_ _)); refine blk_put (cs := #[.int .i64 0, .int .i64 0, .int .i64 0, .slice none 0 0, .slice none 0 0, .slice none 0 0]) ?_ 0 _ rfl; (with_reducible repeat (first | refine blk_drewN ?_ _ | refine blk_drew ?_ | refine blk_alloc ?_ _)); exact BK315.out) hb); replace HB := Aside0.mk (below_step (be4x9 HB.out GE261.out GE262.out GE302.out GE315.out) hb); (try clear hb); (try clear hb2); (try clear hk); (try clear hi); (try clear ho0); (try clear ho1); (try clear ho2)) | ((with_reducible refine gate_dst (N := 11) rfl ?_); refine box_event ?hg (N := 11) ?hd (cs := #[.int .i64 0, .int .i64 0, .int .i64 0, .slice none 0 0, .slice none 0 0, .slice none 0 0]) (t := 41) ?hr ?_; (case hd => rfl); (case hg => rfl); (case hr => first | (go_simp; done) | (go_simp; rfl)); intro gb328 hg w69 hbox hb; replace HO270 := Aside0.mk (Kd.R_below (rRx9 HO270.out) hb); replace HO273 := Aside0.mk (Kd.R_below (rRx9 HO273.out) hb); replace HO276 := Aside0.mk (Kd.R_below (rRx9 HO276.out) hb); replace HO282 := Aside0.mk (Kd.R_below (rRx9 HO282.out) hb); replace HO285 := Aside0.mk (Kd.R_below (rRx9 HO285.out) hb); replace HO288 := Aside0.mk (Kd.R_below (rRx9 HO288.out) hb); replace HO294 := Aside0.mk (Kd.R_below (rRx9 HO294.out) hb); replace HO297 := Aside0.mk (Kd.R_below (rRx9 HO297.out) hb); replace HO300 := Aside0.mk (Kd.R_below (rRx9 HO300.out) hb); replace HO308 := Aside0.mk (Kd.R_below (rRx9 HO308.out) hb); replace HO311 := Aside0.mk (Kd.R_below (rRx9 HO311.out) hb); replace HO314 := Aside0.mk (Kd.R_below (rRx9 HO314.out) hb); replace HO321 := Aside0.mk (Kd.R_below (rRx9 HO321.out) hb); replace HO324 := Aside0.mk (Kd.R_below (rRx9 HO324.out) hb); replace HO327 := Aside0.mk (Kd.R_below (rRx9 HO327.out) hb); have BK328 := Aside0.mk (hbox); have GW328 := Aside0.mk ((by rw [hg]; exact (below_size (be4x9 HB.out GE261.out GE262.out GE302.out GE315.out)) : w.heap.size ≤ gb328)); have GE328 := Aside0.mk ((by rw [hg]; exact (below_size (be4x9 HB.out GE261.out GE262.out GE302.out GE315.out)) : w.heap.size ≤ gb328)); replace HB := Aside0.mk (below_step (be4x9 HB.out GE261.out GE262.out GE302.out GE315.out) hb); have NB261_328 := Aside0.mk ((by rw [hg]; exact Nat.ne_of_lt (blk_lt (rBx9 BK261.out)) : gb261 ≠ gb328)); have NB328_261 := Aside0.mk ((by rw [hg]; exact Nat.ne_of_gt (blk_lt (rBx9 BK261.out)) : gb328 ≠ gb261)); replace BK261 := Aside0.mk (blk_below (rBx9 BK261.out) hb); have NB262_328 := Aside0.mk ((by rw [hg]; exact Nat.ne_of_lt (blk_lt (rBx9 BK262.out)) : gb262 ≠ gb328)); have NB328_262 := Aside0.mk ((by rw [hg]; exact Nat.ne_of_gt (blk_lt (rBx9 BK262.out)) : gb328 ≠ gb262)); replace BK262 := Aside0.mk (blk_below (rBx9 BK262.out) hb); have NB302_328 := Aside0.mk ((by rw [hg]; exact Nat.ne_of_lt (blk_lt (rBx9 BK302.out)) : gb302 ≠ gb328)); have NB328_302 := Aside0.mk ((by rw [hg]; exact Nat.ne_of_gt (blk_lt (rBx9 BK302.out)) : gb328 ≠ gb302)); replace BK302 := Aside0.mk (blk_below (rBx9 BK302.out) hb); have NB315_328 := Aside0.mk ((by rw [hg]; exact Nat.ne_of_lt (blk_lt (rBx9 BK315.out)) : gb315 ≠ gb328)); have NB328_315 := Aside0.mk ((by rw [hg]; exact Nat.ne_of_gt (blk_lt (rBx9 BK315.out)) : gb328 ≠ gb315)); replace BK315 := Aside0.mk (blk_below (rBx9 BK315.out) hb); clear hb hbox hg; have hnb70 := NB328_261.out; have hnc70 := NB261_328.out; have hnb71 := NB328_262.out; have hnc71 := NB262_328.out; have hnb72 := NB328_302.out; have hnc72 := NB302_328.out; have hnb73 := NB328_315.out; have hnc73 := NB315_328.out; obtain ⟨hcz74_0, hcz74_1, hcz74_2, hcz74_3, hcz74_4, hcz74_5, hfz74_0, hfz74_1, hfz74_2, hfz74_3, hfz74_4, hfz74_5⟩ := cf6x9 BK328.out; obtain ⟨Ao75, co75, eo75⟩ := Kd.R_slice HO321.out; subst eo75; obtain ⟨Ao76, co76, eo76⟩ := Kd.R_slice HO324.out; subst eo76; obtain ⟨Ao77, co77, eo77⟩ := Kd.R_slice HO327.out; subst eo77; obtain ⟨hcz78_0, hcz78_1, hcz78_2, hcz78_3, hcz78_4, hcz78_5, hfz78_0, hfz78_1, hfz78_2, hfz78_3, hfz78_4, hfz78_5⟩ := cf6x9 BK315.out) | ((with_reducible refine gate_callee (f := 41) rfl ?_); refine goesL_ (some 46) rfl rfl Try.func41 (by kernel_rfl) rfl #[.agg #[.int .i64 t303, .int .i64 t304, .int .i64 t305, .slice Ao63 t306.length co63, .slice Ao64 t309.length co64, .slice Ao65 t312.length co65], .agg #[.int .i64 t316, .int .i64 t317, .int .i64 t318, .slice Ao75 t319.length co75, .slice Ao76 t322.length co76, .slice Ao77 t325.length co77], .int .i64 a2] rfl mpx9 ?_; (with_reducible refine (impl_MixModels.calls k t303 t304 t305 _ _ t306 _ _ t309 _ _ t312 t316 t317 t318 _ _ t319 _ _ t322 _ _ t325 a2 t329 t330 t331 t332 t335 t338 t341 _ ?side1 ?side2 ?side3 ?side4 ?side5 ?side6 ?side7 ?side8 ?side9 ?side10 ?side11 ?side12 A25.out).mono ?_); (case side1 => exact cS6x9 HO308.out BK328.out); (case side2 => exact (Kd.R_reads' HO308.out).2.1); (case side3 => exact cS6x9 HO311.out BK328.out); (case side4 => exact (Kd.R_reads' HO311.out).2.1); (case side5 => exact cS6x9 HO314.out BK328.out); (case side6 => exact (Kd.R_reads' HO314.out).2.1); (case side7 => exact cS6x9 HO321.out BK328.out); (case side8 => exact (Kd.R_reads' HO321.out).2.1); (case side9 => exact cS6x9 HO324.out BK328.out); (case side10 => exact (Kd.R_reads' HO324.out).2.1); (case side11 => exact cS6x9 HO327.out BK328.out); (case side12 => exact (Kd.R_reads' HO327.out).2.1); rintro e w79 ⟨v333, v336, v339, rfl, ho0, ho1, ho2, hb⟩; refine ⟨_, rfl, ?_⟩; have HO334 := Aside0.mk (Kd.R_lower (nwx9 (nwx9 (nwx9 (nwx9 (nwx9 (nwx9 (nwx9 (nwx9 (nwx9 (nwx9 (nwx9 (nwx9 (nwx9 (nwx9 (nwx9 ho0 (sR6x9 HO270.out BK328.out)) (sR6x9 HO273.out BK328.out)) (sR6x9 HO276.out BK328.out)) (sR6x9 HO282.out BK328.out)) (sR6x9 HO285.out BK328.out)) (sR6x9 HO288.out BK328.out)) (sR6x9 HO294.out BK328.out)) (sR6x9 HO297.out BK328.out)) (sR6x9 HO300.out BK328.out)) (sR6x9 HO308.out BK328.out)) (sR6x9 HO311.out BK328.out)) (sR6x9 HO314.out BK328.out)) (sR6x9 HO321.out BK328.out)) (sR6x9 HO324.out BK328.out)) (sR6x9 HO327.out BK328.out)) (below_size (be5x9 HB.out GE261.out GE262.out GE302.out GE315.out GE328.out))); have HO337 := Aside0.mk (Kd.R_lower (nwx9 (nwx9 (nwx9 (nwx9 (nwx9 (nwx9 (nwx9 (nwx9 (nwx9 (nwx9 (nwx9 (nwx9 (nwx9 (nwx9 (nwx9 ho1 (sR6x9 HO270.out BK328.out)) (sR6x9 HO273.out BK328.out)) (sR6x9 HO276.out BK328.out)) (sR6x9 HO282.out BK328.out)) (sR6x9 HO285.out BK328.out)) (sR6x9 HO288.out BK328.out)) (sR6x9 HO294.out BK328.out)) (sR6x9 HO297.out BK328.out)) (sR6x9 HO300.out BK328.out)) (sR6x9 HO308.out BK328.out)) (sR6x9 HO311.out BK328.out)) (sR6x9 HO314.out BK328.out)) (sR6x9 HO321.out BK328.out)) (sR6x9 HO324.out BK328.out)) (sR6x9 HO327.out BK328.out)) (below_size (be5x9 HB.out GE261.out GE262.out GE302.out GE315.out GE328.out))); have HO340 := Aside0.mk (Kd.R_lower (nwx9 (nwx9 (nwx9 (nwx9 (nwx9 (nwx9 (nwx9 (nwx9 (nwx9 (nwx9 (nwx9 (nwx9 (nwx9 (nwx9 (nwx9 ho2 (sR6x9 HO270.out BK328.out)) (sR6x9 HO273.out BK328.out)) (sR6x9 HO276.out BK328.out)) (sR6x9 HO282.out BK328.out)) (sR6x9 HO285.out BK328.out)) (sR6x9 HO288.out BK328.out)) (sR6x9 HO294.out BK328.out)) (sR6x9 HO297.out BK328.out)) (sR6x9 HO300.out BK328.out)) (sR6x9 HO308.out BK328.out)) (sR6x9 HO311.out BK328.out)) (sR6x9 HO314.out BK328.out)) (sR6x9 HO321.out BK328.out)) (sR6x9 HO324.out BK328.out)) (sR6x9 HO327.out BK328.out)) (below_size (be5x9 HB.out GE261.out GE262.out GE302.out GE315.out GE328.out))); replace HO270 := Aside0.mk (kp3x9 (sR6x9 HO270.out BK328.out) hb ho0 ho1 ho2); replace HO273 := Aside0.mk (kp3x9 (sR6x9 HO273.out BK328.out) hb ho0 ho1 ho2); replace HO276 := Aside0.mk (kp3x9 (sR6x9 HO276.out BK328.out) hb ho0 ho1 ho2); replace HO282 := Aside0.mk (kp3x9 (sR6x9 HO282.out BK328.out) hb ho0 ho1 ho2); replace HO285 := Aside0.mk (kp3x9 (sR6x9 HO285.out BK328.out) hb ho0 ho1 ho2); replace HO288 := Aside0.mk (kp3x9 (sR6x9 HO288.out BK328.out) hb ho0 ho1 ho2); replace HO294 := Aside0.mk (kp3x9 (sR6x9 HO294.out BK328.out) hb ho0 ho1 ho2); replace HO297 := Aside0.mk (kp3x9 (sR6x9 HO297.out BK328.out) hb ho0 ho1 ho2); replace HO300 := Aside0.mk (kp3x9 (sR6x9 HO300.out BK328.out) hb ho0 ho1 ho2); replace HO308 := Aside0.mk (kp3x9 (sR6x9 HO308.out BK328.out) hb ho0 ho1 ho2); replace HO311 := Aside0.mk (kp3x9 (sR6x9 HO311.out BK328.out) hb ho0 ho1 ho2); replace HO314 := Aside0.mk (kp3x9 (sR6x9 HO314.out BK328.out) hb ho0 ho1 ho2); replace HO321 := Aside0.mk (kp3x9 (sR6x9 HO321.out BK328.out) hb ho0 ho1 ho2); replace HO324 := Aside0.mk (kp3x9 (sR6x9 HO324.out BK328.out) hb ho0 ho1 ho2); replace HO327 := Aside0.mk (kp3x9 (sR6x9 HO327.out BK328.out) hb ho0 ho1 ho2); replace BK261 := Aside0.mk (blk_below (bb6x9 BK261.out NB261_328.out) hb); replace BK262 := Aside0.mk (blk_below (bb6x9 BK262.out NB262_328.out) hb); replace BK302 := Aside0.mk (blk_below (bb6x9 BK302.out NB302_328.out) hb); replace BK315 := Aside0.mk (blk_below (bb6x9 BK315.out NB315_328.out) hb); replace BK328 := Aside0.mk (blk_below (g := gb328) (o := .cells #[.int .i64 t316, .int .i64 t317, .int .i64 t318, .slice Ao75 t319.length co75, .slice Ao76 t322.length co76, .slice Ao77 t325.length co77] 41 (0, 0)) (by (with_reducible repeat (first | refine blk_drewN ?_ _ | refine blk_drew ?_ | refine blk_alloc ?_ _)); refine blk_put (cs := #[.int .i64 t316, .int .i64 t317, .int .i64 t318, .slice Ao75 t319.length co75, .slice Ao76 t322.length co76, .slice none 0 0]) ?_ 5 _ rfl; (with_reducible repeat (first | refine blk_drewN ?_ _ | refine blk_drew ?_ | refine blk_alloc ?_ _)); refine blk_put (cs := #[.int .i64 t316, .int .i64 t317, .int .i64 t318, .slice Ao75 t319.length co75, .slice none 0 0, .slice none 0 0]) ?_ 4 _ rfl; (with_reducible repeat (first | refine blk_drewN ?_ _ | refine blk_drew ?_ | refine blk_alloc ?_ _)); refine blk_put (cs := #[.int .i64 t316, .int .i64 t317, .int .i64 t318, .slice none 0 0, .slice none 0 0, .slice none 0 0]) ?_ 3 _ rfl; (with_reducible repeat (first | refine blk_drewN ?_ _ | refine blk_drew ?_ | refine blk_alloc ?_ _)); refine blk_put (cs := #[.int .i64 t316, .int .i64 t317, .int .i64 0, .slice none 0 0, .slice none 0 0, .slice none 0 0]) ?_ 2 _ rfl; (with_reducible repeat (first | refine blk_drewN ?_ _ | refine blk_drew ?_ | refine blk_alloc ?_ _)); refine blk_put (cs := #[.int .i64 t316, .int .i64 0, .int .i64 0, .slice none 0 0, .slice none 0 0, .slice none 0 0]) ?_ 1 _ rfl; (with_reducible repeat (first | refine blk_drewN ?_ _ | refine blk_drew ?_ | refine blk_alloc ?_ _)); refine blk_put (cs := #[.int .i64 0, .int .i64 0, .int .i64 0, .slice none 0 0, .slice none 0 0, .slice none 0 0]) ?_ 0 _ rfl; (with_reducible repeat (first | refine blk_drewN ?_ _ | refine blk_drew ?_ | refine blk_alloc ?_ _)); exact BK328.out) hb); replace HB := Aside0.mk (below_step (be5x9 HB.out GE261.out GE262.out GE302.out GE315.out GE328.out) hb); (try clear hb); (try clear hb2); (try clear hk); (try clear hi); (try clear ho0); (try clear ho1); (try clear ho2)) | ((with_reducible refine gate_dst (N := 12) rfl ?_); refine box_event ?hg (N := 12) ?hd (cs := #[.int .i64 0, .int .i64 0, .int .i64 0, .slice none 0 0, .slice none 0 0, .slice none 0 0]) (t := 41) ?hr ?_; (case hd => rfl); (case hg => rfl); (case hr => first | (go_simp; done) | (go_simp; rfl)); intro gb342 hg w80 hbox hb; replace HO270 := Aside0.mk (Kd.R_below (rRx9 HO270.out) hb); replace HO273 := Aside0.mk (Kd.R_below (rRx9 HO273.out) hb); replace HO276 := Aside0.mk (Kd.R_below (rRx9 HO276.out) hb); replace HO282 := Aside0.mk (Kd.R_below (rRx9 HO282.out) hb); replace HO285 := Aside0.mk (Kd.R_below (rRx9 HO285.out) hb); replace HO288 := Aside0.mk (Kd.R_below (rRx9 HO288.out) hb); replace HO294 := Aside0.mk (Kd.R_below (rRx9 HO294.out) hb); replace HO297 := Aside0.mk (Kd.R_below (rRx9 HO297.out) hb); replace HO300 := Aside0.mk (Kd.R_below (rRx9 HO300.out) hb); replace HO308 := Aside0.mk (Kd.R_below (rRx9 HO308.out) hb); replace HO311 := Aside0.mk (Kd.R_below (rRx9 HO311.out) hb); replace HO314 := Aside0.mk (Kd.R_below (rRx9 HO314.out) hb); replace HO321 := Aside0.mk (Kd.R_below (rRx9 HO321.out) hb); replace HO324 := Aside0.mk (Kd.R_below (rRx9 HO324.out) hb); replace HO327 := Aside0.mk (Kd.R_below (rRx9 HO327.out) hb); replace HO334 := Aside0.mk (Kd.R_below (rRx9 HO334.out) hb); replace HO337 := Aside0.mk (Kd.R_below (rRx9 HO337.out) hb); replace HO340 := Aside0.mk (Kd.R_below (rRx9 HO340.out) hb); have BK342 := Aside0.mk (hbox); have GW342 := Aside0.mk ((by rw [hg]; exact (below_size (be5x9 HB.out GE261.out GE262.out GE302.out GE315.out GE328.out)) : w.heap.size ≤ gb342)); have GE342 := Aside0.mk ((by rw [hg]; exact (below_size (be5x9 HB.out GE261.out GE262.out GE302.out GE315.out GE328.out)) : w.heap.size ≤ gb342)); replace HB := Aside0.mk (below_step (be5x9 HB.out GE261.out GE262.out GE302.out GE315.out GE328.out) hb); have NB261_342 := Aside0.mk ((by rw [hg]; exact Nat.ne_of_lt (blk_lt (rBx9 BK261.out)) : gb261 ≠ gb342)); have NB342_261 := Aside0.mk ((by rw [hg]; exact Nat.ne_of_gt (blk_lt (rBx9 BK261.out)) : gb342 ≠ gb261)); replace BK261 := Aside0.mk (blk_below (rBx9 BK261.out) hb); have NB262_342 := Aside0.mk ((by rw [hg]; exact Nat.ne_of_lt (blk_lt (rBx9 BK262.out)) : gb262 ≠ gb342)); have NB342_262 := Aside0.mk ((by rw [hg]; exact Nat.ne_of_gt (blk_lt (rBx9 BK262.out)) : gb342 ≠ gb262)); replace BK262 := Aside0.mk (blk_below (rBx9 BK262.out) hb); have NB302_342 := Aside0.mk ((by rw [hg]; exact Nat.ne_of_lt (blk_lt (rBx9 BK302.out)) : gb302 ≠ gb342)); have NB342_302 := Aside0.mk ((by rw [hg]; exact Nat.ne_of_gt (blk_lt (rBx9 BK302.out)) : gb342 ≠ gb302)); replace BK302 := Aside0.mk (blk_below (rBx9 BK302.out) hb); have NB315_342 := Aside0.mk ((by rw [hg]; exact Nat.ne_of_lt (blk_lt (rBx9 BK315.out)) : gb315 ≠ gb342)); have NB342_315 := Aside0.mk ((by rw [hg]; exact Nat.ne_of_gt (blk_lt (rBx9 BK315.out)) : gb342 ≠ gb315)); replace BK315 := Aside0.mk (blk_below (rBx9 BK315.out) hb); have NB328_342 := Aside0.mk ((by rw [hg]; exact Nat.ne_of_lt (blk_lt (rBx9 BK328.out)) : gb328 ≠ gb342)); have NB342_328 := Aside0.mk ((by rw [hg]; exact Nat.ne_of_gt (blk_lt (rBx9 BK328.out)) : gb342 ≠ gb328)); replace BK328 := Aside0.mk (blk_below (rBx9 BK328.out) hb); clear hb hbox hg; have hnb81 := NB342_261.out; have hnc81 := NB261_342.out; have hnb82 := NB342_262.out; have hnc82 := NB262_342.out; have hnb83 := NB342_302.out; have hnc83 := NB302_342.out; have hnb84 := NB342_315.out; have hnc84 := NB315_342.out; have hnb85 := NB342_328.out; have hnc85 := NB328_342.out; obtain ⟨hcz86_0, hcz86_1, hcz86_2, hcz86_3, hcz86_4, hcz86_5, hfz86_0, hfz86_1, hfz86_2, hfz86_3, hfz86_4, hfz86_5⟩ := cf6x9 BK342.out; obtain ⟨Ao87, co87, eo87⟩ := Kd.R_slice HO334.out; subst eo87; obtain ⟨Ao88, co88, eo88⟩ := Kd.R_slice HO337.out; subst eo88; obtain ⟨Ao89, co89, eo89⟩ := Kd.R_slice HO340.out; subst eo89))
   (try simp only [Act.put, List.setIfInBounds_toArray, List.set_cons_zero, List.set_cons_succ])
   go_cut [57] (fun v57 wc => ∃ (kq : Nat) (x57_25 : Bool), v57 = .bool x57_25 ∧ Aside0 (laws_FnExactMixModels.j0 kq a2 t301 t341 x57_25 a0_0 a0_1 a0_2 l0_3 l0_4 l0_5 a1_0 a1_1 a1_2 l1_3 l1_4 l1_5 t289 t290 t291 t292 t295 t298 t303 t304 t305 t306 t309 t312 t316 t317 t318 t319 t322 t325 t329 t330 t331 t332 t335 t338 = some r) ∧ Aside0 (kq ≤ k) ∧ Aside0 (Kd.R (Kd.int .i64) 3 wc w.heap.size (fun k_ => some k_ ≠ ((.slice Ao51 t295.length co51) : Value).ownBlock ∧ some k_ ≠ ((.slice Ao53 t298.length co53) : Value).ownBlock ∧ some k_ ≠ ((.slice Ao63 t306.length co63) : Value).ownBlock ∧ some k_ ≠ ((.slice Ao64 t309.length co64) : Value).ownBlock ∧ some k_ ≠ ((.slice Ao65 t312.length co65) : Value).ownBlock ∧ some k_ ≠ ((.slice Ao75 t319.length co75) : Value).ownBlock ∧ some k_ ≠ ((.slice Ao76 t322.length co76) : Value).ownBlock ∧ some k_ ≠ ((.slice Ao77 t325.length co77) : Value).ownBlock ∧ some k_ ≠ ((.slice Ao87 t332.length co87) : Value).ownBlock ∧ some k_ ≠ ((.slice Ao88 t335.length co88) : Value).ownBlock ∧ some k_ ≠ ((.slice Ao89 t338.length co89) : Value).ownBlock) (.slice Ao49 t292.length co49) t292) ∧ Aside0 (Kd.R (Kd.int .i64) 3 wc w.heap.size (fun k_ => some k_ ≠ ((.slice Ao49 t292.length co49) : Value).ownBlock ∧ some k_ ≠ ((.slice Ao53 t298.length co53) : Value).ownBlock ∧ some k_ ≠ ((.slice Ao63 t306.length co63) : Value).ownBlock ∧ some k_ ≠ ((.slice Ao64 t309.length co64) : Value).ownBlock ∧ some k_ ≠ ((.slice Ao65 t312.length co65) : Value).ownBlock ∧ some k_ ≠ ((.slice Ao75 t319.length co75) : Value).ownBlock ∧ some k_ ≠ ((.slice Ao76 t322.length co76) : Value).ownBlock ∧ some k_ ≠ ((.slice Ao77 t325.length co77) : Value).ownBlock ∧ some k_ ≠ ((.slice Ao87 t332.length co87) : Value).ownBlock ∧ some k_ ≠ ((.slice Ao88 t335.length co88) : Value).ownBlock ∧ some k_ ≠ ((.slice Ao89 t338.length co89) : Value).ownBlock) (.slice Ao51 t295.length co51) t295) ∧ Aside0 (Kd.R (Kd.int .i64) 3 wc w.heap.size (fun k_ => some k_ ≠ ((.slice Ao49 t292.length co49) : Value).ownBlock ∧ some k_ ≠ ((.slice Ao51 t295.length co51) : Value).ownBlock ∧ some k_ ≠ ((.slice Ao63 t306.length co63) : Value).ownBlock ∧ some k_ ≠ ((.slice Ao64 t309.length co64) : Value).ownBlock ∧ some k_ ≠ ((.slice Ao65 t312.length co65) : Value).ownBlock ∧ some k_ ≠ ((.slice Ao75 t319.length co75) : Value).ownBlock ∧ some k_ ≠ ((.slice Ao76 t322.length co76) : Value).ownBlock ∧ some k_ ≠ ((.slice Ao77 t325.length co77) : Value).ownBlock ∧ some k_ ≠ ((.slice Ao87 t332.length co87) : Value).ownBlock ∧ some k_ ≠ ((.slice Ao88 t335.length co88) : Value).ownBlock ∧ some k_ ≠ ((.slice Ao89 t338.length co89) : Value).ownBlock) (.slice Ao53 t298.length co53) t298) ∧ Aside0 (Kd.R (Kd.int .i64) 3 wc w.heap.size (fun k_ => some k_ ≠ ((.slice Ao49 t292.length co49) : Value).ownBlock ∧ some k_ ≠ ((.slice Ao51 t295.length co51) : Value).ownBlock ∧ some k_ ≠ ((.slice Ao53 t298.length co53) : Value).ownBlock ∧ some k_ ≠ ((.slice Ao64 t309.length co64) : Value).ownBlock ∧ some k_ ≠ ((.slice Ao65 t312.length co65) : Value).ownBlock ∧ some k_ ≠ ((.slice Ao75 t319.length co75) : Value).ownBlock ∧ some k_ ≠ ((.slice Ao76 t322.length co76) : Value).ownBlock ∧ some k_ ≠ ((.slice Ao77 t325.length co77) : Value).ownBlock ∧ some k_ ≠ ((.slice Ao87 t332.length co87) : Value).ownBlock ∧ some k_ ≠ ((.slice Ao88 t335.length co88) : Value).ownBlock ∧ some k_ ≠ ((.slice Ao89 t338.length co89) : Value).ownBlock) (.slice Ao63 t306.length co63) t306) ∧ Aside0 (Kd.R (Kd.int .i64) 3 wc w.heap.size (fun k_ => some k_ ≠ ((.slice Ao49 t292.length co49) : Value).ownBlock ∧ some k_ ≠ ((.slice Ao51 t295.length co51) : Value).ownBlock ∧ some k_ ≠ ((.slice Ao53 t298.length co53) : Value).ownBlock ∧ some k_ ≠ ((.slice Ao63 t306.length co63) : Value).ownBlock ∧ some k_ ≠ ((.slice Ao65 t312.length co65) : Value).ownBlock ∧ some k_ ≠ ((.slice Ao75 t319.length co75) : Value).ownBlock ∧ some k_ ≠ ((.slice Ao76 t322.length co76) : Value).ownBlock ∧ some k_ ≠ ((.slice Ao77 t325.length co77) : Value).ownBlock ∧ some k_ ≠ ((.slice Ao87 t332.length co87) : Value).ownBlock ∧ some k_ ≠ ((.slice Ao88 t335.length co88) : Value).ownBlock ∧ some k_ ≠ ((.slice Ao89 t338.length co89) : Value).ownBlock) (.slice Ao64 t309.length co64) t309) ∧ Aside0 (Kd.R (Kd.int .i64) 3 wc w.heap.size (fun k_ => some k_ ≠ ((.slice Ao49 t292.length co49) : Value).ownBlock ∧ some k_ ≠ ((.slice Ao51 t295.length co51) : Value).ownBlock ∧ some k_ ≠ ((.slice Ao53 t298.length co53) : Value).ownBlock ∧ some k_ ≠ ((.slice Ao63 t306.length co63) : Value).ownBlock ∧ some k_ ≠ ((.slice Ao64 t309.length co64) : Value).ownBlock ∧ some k_ ≠ ((.slice Ao75 t319.length co75) : Value).ownBlock ∧ some k_ ≠ ((.slice Ao76 t322.length co76) : Value).ownBlock ∧ some k_ ≠ ((.slice Ao77 t325.length co77) : Value).ownBlock ∧ some k_ ≠ ((.slice Ao87 t332.length co87) : Value).ownBlock ∧ some k_ ≠ ((.slice Ao88 t335.length co88) : Value).ownBlock ∧ some k_ ≠ ((.slice Ao89 t338.length co89) : Value).ownBlock) (.slice Ao65 t312.length co65) t312) ∧ Aside0 (Kd.R (Kd.int .i64) 3 wc w.heap.size (fun k_ => some k_ ≠ ((.slice Ao49 t292.length co49) : Value).ownBlock ∧ some k_ ≠ ((.slice Ao51 t295.length co51) : Value).ownBlock ∧ some k_ ≠ ((.slice Ao53 t298.length co53) : Value).ownBlock ∧ some k_ ≠ ((.slice Ao63 t306.length co63) : Value).ownBlock ∧ some k_ ≠ ((.slice Ao64 t309.length co64) : Value).ownBlock ∧ some k_ ≠ ((.slice Ao65 t312.length co65) : Value).ownBlock ∧ some k_ ≠ ((.slice Ao76 t322.length co76) : Value).ownBlock ∧ some k_ ≠ ((.slice Ao77 t325.length co77) : Value).ownBlock ∧ some k_ ≠ ((.slice Ao87 t332.length co87) : Value).ownBlock ∧ some k_ ≠ ((.slice Ao88 t335.length co88) : Value).ownBlock ∧ some k_ ≠ ((.slice Ao89 t338.length co89) : Value).ownBlock) (.slice Ao75 t319.length co75) t319) ∧ Aside0 (Kd.R (Kd.int .i64) 3 wc w.heap.size (fun k_ => some k_ ≠ ((.slice Ao49 t292.length co49) : Value).ownBlock ∧ some k_ ≠ ((.slice Ao51 t295.length co51) : Value).ownBlock ∧ some k_ ≠ ((.slice Ao53 t298.length co53) : Value).ownBlock ∧ some k_ ≠ ((.slice Ao63 t306.length co63) : Value).ownBlock ∧ some k_ ≠ ((.slice Ao64 t309.length co64) : Value).ownBlock ∧ some k_ ≠ ((.slice Ao65 t312.length co65) : Value).ownBlock ∧ some k_ ≠ ((.slice Ao75 t319.length co75) : Value).ownBlock ∧ some k_ ≠ ((.slice Ao77 t325.length co77) : Value).ownBlock ∧ some k_ ≠ ((.slice Ao87 t332.length co87) : Value).ownBlock ∧ some k_ ≠ ((.slice Ao88 t335.length co88) : Value).ownBlock ∧ some k_ ≠ ((.slice Ao89 t338.length co89) : Value).ownBlock) (.slice Ao76 t322.length co76) t322) ∧ Aside0 (Kd.R (Kd.int .i64) 3 wc w.heap.size (fun k_ => some k_ ≠ ((.slice Ao49 t292.length co49) : Value).ownBlock ∧ some k_ ≠ ((.slice Ao51 t295.length co51) : Value).ownBlock ∧ some k_ ≠ ((.slice Ao53 t298.length co53) : Value).ownBlock ∧ some k_ ≠ ((.slice Ao63 t306.length co63) : Value).ownBlock ∧ some k_ ≠ ((.slice Ao64 t309.length co64) : Value).ownBlock ∧ some k_ ≠ ((.slice Ao65 t312.length co65) : Value).ownBlock ∧ some k_ ≠ ((.slice Ao75 t319.length co75) : Value).ownBlock ∧ some k_ ≠ ((.slice Ao76 t322.length co76) : Value).ownBlock ∧ some k_ ≠ ((.slice Ao87 t332.length co87) : Value).ownBlock ∧ some k_ ≠ ((.slice Ao88 t335.length co88) : Value).ownBlock ∧ some k_ ≠ ((.slice Ao89 t338.length co89) : Value).ownBlock) (.slice Ao77 t325.length co77) t325) ∧ Aside0 (Kd.R (Kd.int .i64) 3 wc w.heap.size (fun k_ => some k_ ≠ ((.slice Ao49 t292.length co49) : Value).ownBlock ∧ some k_ ≠ ((.slice Ao51 t295.length co51) : Value).ownBlock ∧ some k_ ≠ ((.slice Ao53 t298.length co53) : Value).ownBlock ∧ some k_ ≠ ((.slice Ao63 t306.length co63) : Value).ownBlock ∧ some k_ ≠ ((.slice Ao64 t309.length co64) : Value).ownBlock ∧ some k_ ≠ ((.slice Ao65 t312.length co65) : Value).ownBlock ∧ some k_ ≠ ((.slice Ao75 t319.length co75) : Value).ownBlock ∧ some k_ ≠ ((.slice Ao76 t322.length co76) : Value).ownBlock ∧ some k_ ≠ ((.slice Ao77 t325.length co77) : Value).ownBlock ∧ some k_ ≠ ((.slice Ao88 t335.length co88) : Value).ownBlock ∧ some k_ ≠ ((.slice Ao89 t338.length co89) : Value).ownBlock) (.slice Ao87 t332.length co87) t332) ∧ Aside0 (Kd.R (Kd.int .i64) 3 wc w.heap.size (fun k_ => some k_ ≠ ((.slice Ao49 t292.length co49) : Value).ownBlock ∧ some k_ ≠ ((.slice Ao51 t295.length co51) : Value).ownBlock ∧ some k_ ≠ ((.slice Ao53 t298.length co53) : Value).ownBlock ∧ some k_ ≠ ((.slice Ao63 t306.length co63) : Value).ownBlock ∧ some k_ ≠ ((.slice Ao64 t309.length co64) : Value).ownBlock ∧ some k_ ≠ ((.slice Ao65 t312.length co65) : Value).ownBlock ∧ some k_ ≠ ((.slice Ao75 t319.length co75) : Value).ownBlock ∧ some k_ ≠ ((.slice Ao76 t322.length co76) : Value).ownBlock ∧ some k_ ≠ ((.slice Ao77 t325.length co77) : Value).ownBlock ∧ some k_ ≠ ((.slice Ao87 t332.length co87) : Value).ownBlock ∧ some k_ ≠ ((.slice Ao89 t338.length co89) : Value).ownBlock) (.slice Ao88 t335.length co88) t335) ∧ Aside0 (Kd.R (Kd.int .i64) 3 wc w.heap.size (fun k_ => some k_ ≠ ((.slice Ao49 t292.length co49) : Value).ownBlock ∧ some k_ ≠ ((.slice Ao51 t295.length co51) : Value).ownBlock ∧ some k_ ≠ ((.slice Ao53 t298.length co53) : Value).ownBlock ∧ some k_ ≠ ((.slice Ao63 t306.length co63) : Value).ownBlock ∧ some k_ ≠ ((.slice Ao64 t309.length co64) : Value).ownBlock ∧ some k_ ≠ ((.slice Ao65 t312.length co65) : Value).ownBlock ∧ some k_ ≠ ((.slice Ao75 t319.length co75) : Value).ownBlock ∧ some k_ ≠ ((.slice Ao76 t322.length co76) : Value).ownBlock ∧ some k_ ≠ ((.slice Ao77 t325.length co77) : Value).ownBlock ∧ some k_ ≠ ((.slice Ao87 t332.length co87) : Value).ownBlock ∧ some k_ ≠ ((.slice Ao88 t335.length co88) : Value).ownBlock) (.slice Ao89 t338.length co89) t338) ∧ Aside0 (wc.heap[gb261]? = some (.cells #[.int .i64 a0_0, .int .i64 a0_1, .int .i64 a0_2, (.slice A0_3 l0_3.length c0_3), (.slice A0_4 l0_4.length c0_4), (.slice A0_5 l0_5.length c0_5)] 26 (0, 0))) ∧ Aside0 (wc.heap[gb262]? = some (.cells #[.int .i64 a1_0, .int .i64 a1_1, .int .i64 a1_2, (.slice A1_3 l1_3.length c1_3), (.slice A1_4 l1_4.length c1_4), (.slice A1_5 l1_5.length c1_5)] 26 (0, 0))) ∧ Aside0 (wc.heap[gb302]? = some (.cells #[.int .i64 t289, .int .i64 t290, .int .i64 t291, (.slice Ao49 t292.length co49), (.slice Ao51 t295.length co51), (.slice Ao53 t298.length co53)] 41 (0, 0))) ∧ Aside0 (wc.heap[gb315]? = some (.cells #[.int .i64 t303, .int .i64 t304, .int .i64 t305, (.slice Ao63 t306.length co63), (.slice Ao64 t309.length co64), (.slice Ao65 t312.length co65)] 41 (0, 0))) ∧ Aside0 (wc.heap[gb328]? = some (.cells #[.int .i64 t316, .int .i64 t317, .int .i64 t318, (.slice Ao75 t319.length co75), (.slice Ao76 t322.length co76), (.slice Ao77 t325.length co77)] 41 (0, 0))) ∧ Aside0 (wc.heap[gb342]? = some (.cells #[.int .i64 t329, .int .i64 t330, .int .i64 t331, (.slice Ao87 t332.length co87), (.slice Ao88 t335.length co88), (.slice Ao89 t338.length co89)] 41 (0, 0))) ∧ Aside0 (Below w.heap.size w wc))
   case first =>
    have H := HC26.out
    clear HC26
    replace H := Option.bind_eq_some_iff.mp H
    obtain ⟨t343, A900, H⟩ := H
    have A90 := Aside0.mk A900
    clear A900
    by_cases c91 : t343 = true
    ·subst c91
     have H1 : (laws_FnExactMixModels.j0 k a2 t301 t341 (t341 != t301) a0_0 a0_1 a0_2 l0_3 l0_4 l0_5 a1_0 a1_1 a1_2 l1_3 l1_4 l1_5 t289 t290 t291 t292 t295 t298 t303 t304 t305 t306 t309 t312 t316 t317 t318 t319 t322 t325 t329 t330 t331 t332 t335 t338) = some r := by rw [if_pos rfl] at H; exact H
     clear H
     have H := H1
     clear H1
     have H' := Aside0.mk H
     clear H
     have hnb92 := NB342_261.out
     have hnc92 := NB261_342.out
     have hnb93 := NB342_262.out
     have hnc93 := NB262_342.out
     have hnb94 := NB342_302.out
     have hnc94 := NB302_342.out
     have hnb95 := NB342_315.out
     have hnc95 := NB315_342.out
     have hnb96 := NB342_328.out
     have hnc96 := NB328_342.out
     obtain ⟨hcz97_0, hcz97_1, hcz97_2, hcz97_3, hcz97_4, hcz97_5, hfz97_0, hfz97_1, hfz97_2, hfz97_3, hfz97_4, hfz97_5⟩ := cf6x9 BK342.out
     have hnb98 := NB302_261.out
     have hnc98 := NB261_302.out
     have hnb99 := NB302_262.out
     have hnc99 := NB262_302.out
     have hnb100 := NB302_315.out
     have hnc100 := NB315_302.out
     have hnb101 := NB302_328.out
     have hnc101 := NB328_302.out
     obtain ⟨hcz102_0, hcz102_1, hcz102_2, hcz102_3, hcz102_4, hcz102_5, hfz102_0, hfz102_1, hfz102_2, hfz102_3, hfz102_4, hfz102_5⟩ := cf6x9 BK302.out
     go_wp2_with (first | ((with_reducible refine gate_callee (f := 24) rfl ?_); refine goesL_ (some 51) rfl rfl Try.func24 (by kernel_rfl) rfl #[.agg #[.int .i64 t329, .int .i64 t330, .int .i64 t331, .slice Ao87 t332.length co87, .slice Ao88 t335.length co88, .slice Ao89 t338.length co89], .agg #[.int .i64 t289, .int .i64 t290, .int .i64 t291, .slice Ao49 t292.length co49, .slice Ao51 t295.length co51, .slice Ao53 t298.length co53]] rfl mpx9 ?_; (with_reducible refine (laws_eqModel.calls k t329 t330 t331 _ _ t332 _ _ t335 _ _ t338 t289 t290 t291 _ _ t292 _ _ t295 _ _ t298 true _ ?side1 ?side2 ?side3 ?side4 ?side5 ?side6 ?side7 ?side8 ?side9 ?side10 ?side11 ?side12 A90.out).mono ?_); (case side1 => exact cS6x9 HO334.out BK342.out); (case side2 => exact (Kd.R_reads' HO334.out).2.1); (case side3 => exact cS6x9 HO337.out BK342.out); (case side4 => exact (Kd.R_reads' HO337.out).2.1); (case side5 => exact cS6x9 HO340.out BK342.out); (case side6 => exact (Kd.R_reads' HO340.out).2.1); (case side7 => exact cS6x9 HO294.out BK342.out); (case side8 => exact (Kd.R_reads' HO294.out).2.1); (case side9 => exact cS6x9 HO297.out BK342.out); (case side10 => exact (Kd.R_reads' HO297.out).2.1); (case side11 => exact cS6x9 HO300.out BK342.out); (case side12 => exact (Kd.R_reads' HO300.out).2.1); rintro e w103 ⟨rfl, hb⟩; refine ⟨_, rfl, ?_⟩; replace HO270 := Aside0.mk (Kd.R_below (sR6x9 HO270.out BK342.out) hb); replace HO273 := Aside0.mk (Kd.R_below (sR6x9 HO273.out BK342.out) hb); replace HO276 := Aside0.mk (Kd.R_below (sR6x9 HO276.out BK342.out) hb); replace HO282 := Aside0.mk (Kd.R_below (sR6x9 HO282.out BK342.out) hb); replace HO285 := Aside0.mk (Kd.R_below (sR6x9 HO285.out BK342.out) hb); replace HO288 := Aside0.mk (Kd.R_below (sR6x9 HO288.out BK342.out) hb); replace HO294 := Aside0.mk (Kd.R_below (sR6x9 HO294.out BK342.out) hb); replace HO297 := Aside0.mk (Kd.R_below (sR6x9 HO297.out BK342.out) hb); replace HO300 := Aside0.mk (Kd.R_below (sR6x9 HO300.out BK342.out) hb); replace HO308 := Aside0.mk (Kd.R_below (sR6x9 HO308.out BK342.out) hb); replace HO311 := Aside0.mk (Kd.R_below (sR6x9 HO311.out BK342.out) hb); replace HO314 := Aside0.mk (Kd.R_below (sR6x9 HO314.out BK342.out) hb); replace HO321 := Aside0.mk (Kd.R_below (sR6x9 HO321.out BK342.out) hb); replace HO324 := Aside0.mk (Kd.R_below (sR6x9 HO324.out BK342.out) hb); replace HO327 := Aside0.mk (Kd.R_below (sR6x9 HO327.out BK342.out) hb); replace HO334 := Aside0.mk (Kd.R_below (sR6x9 HO334.out BK342.out) hb); replace HO337 := Aside0.mk (Kd.R_below (sR6x9 HO337.out BK342.out) hb); replace HO340 := Aside0.mk (Kd.R_below (sR6x9 HO340.out BK342.out) hb); replace BK261 := Aside0.mk (blk_below (bb6x9 BK261.out NB261_342.out) hb); replace BK262 := Aside0.mk (blk_below (bb6x9 BK262.out NB262_342.out) hb); replace BK302 := Aside0.mk (blk_below (bb6x9 BK302.out NB302_342.out) hb); replace BK315 := Aside0.mk (blk_below (bb6x9 BK315.out NB315_342.out) hb); replace BK328 := Aside0.mk (blk_below (bb6x9 BK328.out NB328_342.out) hb); replace BK342 := Aside0.mk (blk_below (g := gb342) (o := .cells #[.int .i64 t329, .int .i64 t330, .int .i64 t331, .slice Ao87 t332.length co87, .slice Ao88 t335.length co88, .slice Ao89 t338.length co89] 41 (0, 0)) (by (with_reducible repeat (first | refine blk_drewN ?_ _ | refine blk_drew ?_ | refine blk_alloc ?_ _)); refine blk_put (cs := #[.int .i64 t329, .int .i64 t330, .int .i64 t331, .slice Ao87 t332.length co87, .slice Ao88 t335.length co88, .slice none 0 0]) ?_ 5 _ rfl; (with_reducible repeat (first | refine blk_drewN ?_ _ | refine blk_drew ?_ | refine blk_alloc ?_ _)); refine blk_put (cs := #[.int .i64 t329, .int .i64 t330, .int .i64 t331, .slice Ao87 t332.length co87, .slice none 0 0, .slice none 0 0]) ?_ 4 _ rfl; (with_reducible repeat (first | refine blk_drewN ?_ _ | refine blk_drew ?_ | refine blk_alloc ?_ _)); refine blk_put (cs := #[.int .i64 t329, .int .i64 t330, .int .i64 t331, .slice none 0 0, .slice none 0 0, .slice none 0 0]) ?_ 3 _ rfl; (with_reducible repeat (first | refine blk_drewN ?_ _ | refine blk_drew ?_ | refine blk_alloc ?_ _)); refine blk_put (cs := #[.int .i64 t329, .int .i64 t330, .int .i64 0, .slice none 0 0, .slice none 0 0, .slice none 0 0]) ?_ 2 _ rfl; (with_reducible repeat (first | refine blk_drewN ?_ _ | refine blk_drew ?_ | refine blk_alloc ?_ _)); refine blk_put (cs := #[.int .i64 t329, .int .i64 0, .int .i64 0, .slice none 0 0, .slice none 0 0, .slice none 0 0]) ?_ 1 _ rfl; (with_reducible repeat (first | refine blk_drewN ?_ _ | refine blk_drew ?_ | refine blk_alloc ?_ _)); refine blk_put (cs := #[.int .i64 0, .int .i64 0, .int .i64 0, .slice none 0 0, .slice none 0 0, .slice none 0 0]) ?_ 0 _ rfl; (with_reducible repeat (first | refine blk_drewN ?_ _ | refine blk_drew ?_ | refine blk_alloc ?_ _)); exact BK342.out) hb); replace HB := Aside0.mk (below_step (be6x9 HB.out GE261.out GE262.out GE302.out GE315.out GE328.out GE342.out) hb); (try clear hb); (try clear hb2); (try clear hk); (try clear hi)))
     go_meet
     case rel => exact ⟨_, ((t341 != t301)), (by first | rfl | (simp; done) | (simp [*]; done)), H', ⟨by first | omega | exact Nat.le_refl _⟩, ⟨by exact rRx9 (mox9 HO294.out)⟩, ⟨by exact rRx9 (mox9 HO297.out)⟩, ⟨by exact rRx9 (mox9 HO300.out)⟩, ⟨by exact rRx9 (mox9 HO308.out)⟩, ⟨by exact rRx9 (mox9 HO311.out)⟩, ⟨by exact rRx9 (mox9 HO314.out)⟩, ⟨by exact rRx9 (mox9 HO321.out)⟩, ⟨by exact rRx9 (mox9 HO324.out)⟩, ⟨by exact rRx9 (mox9 HO327.out)⟩, ⟨by exact rRx9 (mox9 HO334.out)⟩, ⟨by exact rRx9 (mox9 HO337.out)⟩, ⟨by exact rRx9 (mox9 HO340.out)⟩, ⟨rBx9 BK261.out⟩, ⟨rBx9 BK262.out⟩, ⟨rBx9 BK302.out⟩, ⟨rBx9 BK315.out⟩, ⟨rBx9 BK328.out⟩, ⟨rBx9 BK342.out⟩, ⟨be6x9 HB.out GE261.out GE262.out GE302.out GE315.out GE328.out GE342.out⟩⟩
    ·replace c91 := Bool.eq_false_iff.mpr c91
     subst c91
     have H1 : (laws_FnExactMixModels.j0 k a2 t301 t341 true a0_0 a0_1 a0_2 l0_3 l0_4 l0_5 a1_0 a1_1 a1_2 l1_3 l1_4 l1_5 t289 t290 t291 t292 t295 t298 t303 t304 t305 t306 t309 t312 t316 t317 t318 t319 t322 t325 t329 t330 t331 t332 t335 t338) = some r := by rw [if_neg (show ¬ (false = true) by decide)] at H; exact H
     clear H
     have H := H1
     clear H1
     have H' := Aside0.mk H
     clear H
     have hnb104 := NB342_261.out
     have hnc104 := NB261_342.out
     have hnb105 := NB342_262.out
     have hnc105 := NB262_342.out
     have hnb106 := NB342_302.out
     have hnc106 := NB302_342.out
     have hnb107 := NB342_315.out
     have hnc107 := NB315_342.out
     have hnb108 := NB342_328.out
     have hnc108 := NB328_342.out
     obtain ⟨hcz109_0, hcz109_1, hcz109_2, hcz109_3, hcz109_4, hcz109_5, hfz109_0, hfz109_1, hfz109_2, hfz109_3, hfz109_4, hfz109_5⟩ := cf6x9 BK342.out
     have hnb110 := NB302_261.out
     have hnc110 := NB261_302.out
     have hnb111 := NB302_262.out
     have hnc111 := NB262_302.out
     have hnb112 := NB302_315.out
     have hnc112 := NB315_302.out
     have hnb113 := NB302_328.out
     have hnc113 := NB328_302.out
     obtain ⟨hcz114_0, hcz114_1, hcz114_2, hcz114_3, hcz114_4, hcz114_5, hfz114_0, hfz114_1, hfz114_2, hfz114_3, hfz114_4, hfz114_5⟩ := cf6x9 BK302.out
     go_wp2_with (first | ((with_reducible refine gate_callee (f := 24) rfl ?_); refine goesL_ (some 51) rfl rfl Try.func24 (by kernel_rfl) rfl #[.agg #[.int .i64 t329, .int .i64 t330, .int .i64 t331, .slice Ao87 t332.length co87, .slice Ao88 t335.length co88, .slice Ao89 t338.length co89], .agg #[.int .i64 t289, .int .i64 t290, .int .i64 t291, .slice Ao49 t292.length co49, .slice Ao51 t295.length co51, .slice Ao53 t298.length co53]] rfl mpx9 ?_; (with_reducible refine (laws_eqModel.calls k t329 t330 t331 _ _ t332 _ _ t335 _ _ t338 t289 t290 t291 _ _ t292 _ _ t295 _ _ t298 false _ ?side1 ?side2 ?side3 ?side4 ?side5 ?side6 ?side7 ?side8 ?side9 ?side10 ?side11 ?side12 A90.out).mono ?_); (case side1 => exact cS6x9 HO334.out BK342.out); (case side2 => exact (Kd.R_reads' HO334.out).2.1); (case side3 => exact cS6x9 HO337.out BK342.out); (case side4 => exact (Kd.R_reads' HO337.out).2.1); (case side5 => exact cS6x9 HO340.out BK342.out); (case side6 => exact (Kd.R_reads' HO340.out).2.1); (case side7 => exact cS6x9 HO294.out BK342.out); (case side8 => exact (Kd.R_reads' HO294.out).2.1); (case side9 => exact cS6x9 HO297.out BK342.out); (case side10 => exact (Kd.R_reads' HO297.out).2.1); (case side11 => exact cS6x9 HO300.out BK342.out); (case side12 => exact (Kd.R_reads' HO300.out).2.1); rintro e w115 ⟨rfl, hb⟩; refine ⟨_, rfl, ?_⟩; replace HO270 := Aside0.mk (Kd.R_below (sR6x9 HO270.out BK342.out) hb); replace HO273 := Aside0.mk (Kd.R_below (sR6x9 HO273.out BK342.out) hb); replace HO276 := Aside0.mk (Kd.R_below (sR6x9 HO276.out BK342.out) hb); replace HO282 := Aside0.mk (Kd.R_below (sR6x9 HO282.out BK342.out) hb); replace HO285 := Aside0.mk (Kd.R_below (sR6x9 HO285.out BK342.out) hb); replace HO288 := Aside0.mk (Kd.R_below (sR6x9 HO288.out BK342.out) hb); replace HO294 := Aside0.mk (Kd.R_below (sR6x9 HO294.out BK342.out) hb); replace HO297 := Aside0.mk (Kd.R_below (sR6x9 HO297.out BK342.out) hb); replace HO300 := Aside0.mk (Kd.R_below (sR6x9 HO300.out BK342.out) hb); replace HO308 := Aside0.mk (Kd.R_below (sR6x9 HO308.out BK342.out) hb); replace HO311 := Aside0.mk (Kd.R_below (sR6x9 HO311.out BK342.out) hb); replace HO314 := Aside0.mk (Kd.R_below (sR6x9 HO314.out BK342.out) hb); replace HO321 := Aside0.mk (Kd.R_below (sR6x9 HO321.out BK342.out) hb); replace HO324 := Aside0.mk (Kd.R_below (sR6x9 HO324.out BK342.out) hb); replace HO327 := Aside0.mk (Kd.R_below (sR6x9 HO327.out BK342.out) hb); replace HO334 := Aside0.mk (Kd.R_below (sR6x9 HO334.out BK342.out) hb); replace HO337 := Aside0.mk (Kd.R_below (sR6x9 HO337.out BK342.out) hb); replace HO340 := Aside0.mk (Kd.R_below (sR6x9 HO340.out BK342.out) hb); replace BK261 := Aside0.mk (blk_below (bb6x9 BK261.out NB261_342.out) hb); replace BK262 := Aside0.mk (blk_below (bb6x9 BK262.out NB262_342.out) hb); replace BK302 := Aside0.mk (blk_below (bb6x9 BK302.out NB302_342.out) hb); replace BK315 := Aside0.mk (blk_below (bb6x9 BK315.out NB315_342.out) hb); replace BK328 := Aside0.mk (blk_below (bb6x9 BK328.out NB328_342.out) hb); replace BK342 := Aside0.mk (blk_below (g := gb342) (o := .cells #[.int .i64 t329, .int .i64 t330, .int .i64 t331, .slice Ao87 t332.length co87, .slice Ao88 t335.length co88, .slice Ao89 t338.length co89] 41 (0, 0)) (by (with_reducible repeat (first | refine blk_drewN ?_ _ | refine blk_drew ?_ | refine blk_alloc ?_ _)); refine blk_put (cs := #[.int .i64 t329, .int .i64 t330, .int .i64 t331, .slice Ao87 t332.length co87, .slice Ao88 t335.length co88, .slice none 0 0]) ?_ 5 _ rfl; (with_reducible repeat (first | refine blk_drewN ?_ _ | refine blk_drew ?_ | refine blk_alloc ?_ _)); refine blk_put (cs := #[.int .i64 t329, .int .i64 t330, .int .i64 t331, .slice Ao87 t332.length co87, .slice none 0 0, .slice none 0 0]) ?_ 4 _ rfl; (with_reducible repeat (first | refine blk_drewN ?_ _ | refine blk_drew ?_ | refine blk_alloc ?_ _)); refine blk_put (cs := #[.int .i64 t329, .int .i64 t330, .int .i64 t331, .slice none 0 0, .slice none 0 0, .slice none 0 0]) ?_ 3 _ rfl; (with_reducible repeat (first | refine blk_drewN ?_ _ | refine blk_drew ?_ | refine blk_alloc ?_ _)); refine blk_put (cs := #[.int .i64 t329, .int .i64 t330, .int .i64 0, .slice none 0 0, .slice none 0 0, .slice none 0 0]) ?_ 2 _ rfl; (with_reducible repeat (first | refine blk_drewN ?_ _ | refine blk_drew ?_ | refine blk_alloc ?_ _)); refine blk_put (cs := #[.int .i64 t329, .int .i64 0, .int .i64 0, .slice none 0 0, .slice none 0 0, .slice none 0 0]) ?_ 1 _ rfl; (with_reducible repeat (first | refine blk_drewN ?_ _ | refine blk_drew ?_ | refine blk_alloc ?_ _)); refine blk_put (cs := #[.int .i64 0, .int .i64 0, .int .i64 0, .slice none 0 0, .slice none 0 0, .slice none 0 0]) ?_ 0 _ rfl; (with_reducible repeat (first | refine blk_drewN ?_ _ | refine blk_drew ?_ | refine blk_alloc ?_ _)); exact BK342.out) hb); replace HB := Aside0.mk (below_step (be6x9 HB.out GE261.out GE262.out GE302.out GE315.out GE328.out GE342.out) hb); (try clear hb); (try clear hb2); (try clear hk); (try clear hi)))
     go_meet
     case rel => exact ⟨_, (true), (by first | rfl | (simp; done) | (simp [*]; done)), H', ⟨by first | omega | exact Nat.le_refl _⟩, ⟨by exact rRx9 (mox9 HO294.out)⟩, ⟨by exact rRx9 (mox9 HO297.out)⟩, ⟨by exact rRx9 (mox9 HO300.out)⟩, ⟨by exact rRx9 (mox9 HO308.out)⟩, ⟨by exact rRx9 (mox9 HO311.out)⟩, ⟨by exact rRx9 (mox9 HO314.out)⟩, ⟨by exact rRx9 (mox9 HO321.out)⟩, ⟨by exact rRx9 (mox9 HO324.out)⟩, ⟨by exact rRx9 (mox9 HO327.out)⟩, ⟨by exact rRx9 (mox9 HO334.out)⟩, ⟨by exact rRx9 (mox9 HO337.out)⟩, ⟨by exact rRx9 (mox9 HO340.out)⟩, ⟨rBx9 BK261.out⟩, ⟨rBx9 BK262.out⟩, ⟨rBx9 BK302.out⟩, ⟨rBx9 BK315.out⟩, ⟨rBx9 BK328.out⟩, ⟨rBx9 BK342.out⟩, ⟨be6x9 HB.out GE261.out GE262.out GE302.out GE315.out GE328.out GE342.out⟩⟩
   case rest =>
    clear HC26
    try clear c5; try clear c91; try clear hcz102_0 hcz102_1 hcz102_2 hcz102_3 hcz102_4 hcz102_5; try clear hcz109_0 hcz109_1 hcz109_2 hcz109_3 hcz109_4 hcz109_5; try clear hcz114_0 hcz114_1 hcz114_2 hcz114_3 hcz114_4 hcz114_5; try clear hcz56_0 hcz56_1 hcz56_2 hcz56_3 hcz56_4 hcz56_5; try clear hcz62_0 hcz62_1 hcz62_2 hcz62_3 hcz62_4 hcz62_5; try clear hcz67_0 hcz67_1 hcz67_2 hcz67_3 hcz67_4 hcz67_5; try clear hcz74_0 hcz74_1 hcz74_2 hcz74_3 hcz74_4 hcz74_5; try clear hcz78_0 hcz78_1 hcz78_2 hcz78_3 hcz78_4 hcz78_5; try clear hcz86_0 hcz86_1 hcz86_2 hcz86_3 hcz86_4 hcz86_5; try clear hcz97_0 hcz97_1 hcz97_2 hcz97_3 hcz97_4 hcz97_5; try clear hfz102_0 hfz102_1 hfz102_2 hfz102_3 hfz102_4 hfz102_5; try clear hfz109_0 hfz109_1 hfz109_2 hfz109_3 hfz109_4 hfz109_5; try clear hfz114_0 hfz114_1 hfz114_2 hfz114_3 hfz114_4 hfz114_5; try clear hfz56_0 hfz56_1 hfz56_2 hfz56_3 hfz56_4 hfz56_5; try clear hfz62_0 hfz62_1 hfz62_2 hfz62_3 hfz62_4 hfz62_5; try clear hfz67_0 hfz67_1 hfz67_2 hfz67_3 hfz67_4 hfz67_5; try clear hfz74_0 hfz74_1 hfz74_2 hfz74_3 hfz74_4 hfz74_5; try clear hfz78_0 hfz78_1 hfz78_2 hfz78_3 hfz78_4 hfz78_5; try clear hfz86_0 hfz86_1 hfz86_2 hfz86_3 hfz86_4 hfz86_5; try clear hfz97_0 hfz97_1 hfz97_2 hfz97_3 hfz97_4 hfz97_5
    obtain ⟨kq, x57_25, rfl, HA, HJ25, HO_303003, HO_303004, HO_303005, HO_316003, HO_316004, HO_316005, HO_329003, HO_329004, HO_329005, HO_343003, HO_343004, HO_343005, BK261, BK262, BK302, BK315, BK328, BK342, HB⟩ := hcut
    cases kq with
    | zero => exact absurd HA.out (by simp [laws_FnExactMixModels.j0])
    | succ kj25 =>
     have H := HA.out
     clear HA
     simp only [laws_FnExactMixModels.j0] at H
     by_cases c116 : x57_25 = true
     ·subst c116
      have H1 : (some false) = some r := by rw [if_pos rfl] at H; exact H
      clear H
      have H := H1
      clear H1
      obtain rfl := Option.some.inj H
      go_wp2
      go_ret
      exact ⟨by first | rfl | (simp [errW_none, errW_some] <;> rfl) | (simp [*, errW_none, errW_some] <;> rfl), be6x9 HB.out GE261.out GE262.out GE302.out GE315.out GE328.out GE342.out⟩
     ·replace c116 := Bool.eq_false_iff.mpr c116
      subst c116
      have H1 : ((laws_toModel.f kj25 a0_0 a0_1 a0_2 l0_3 l0_4 l0_5).bind fun bt344 => ((laws_eqModel.f kj25 t303 t304 t305 t306 t309 t312 bt344.1 bt344.2.1 bt344.2.2.1 bt344.2.2.2.1 bt344.2.2.2.2.1 bt344.2.2.2.2.2).bind fun t356 => (if t356 = true then (laws_FnExactMixModels.j1 kj25 a2 t301 t341 a0_0 a0_1 a0_2 l0_3 l0_4 l0_5 a1_0 a1_1 a1_2 l1_3 l1_4 l1_5 t289 t290 t291 t292 t295 t298 t303 t304 t305 t306 t309 t312 t316 t317 t318 t319 t322 t325 t329 t330 t331 t332 t335 t338) else (some false)))) = some r := by rw [if_neg (show ¬ (false = true) by decide)] at H; exact H
      clear H
      have H := H1
      clear H1
      replace H := Option.bind_eq_some_iff.mp H
      obtain ⟨⟨t344, t345, t346, t347, t350, t353⟩, A1170, H⟩ := H
      (try dsimp only at H)
      have A117 := Aside0.mk A1170
      clear A1170
      replace H := Option.bind_eq_some_iff.mp H
      obtain ⟨t356, A1180, H⟩ := H
      have A118 := Aside0.mk A1180
      clear A1180
      have HC119 := Aside0.mk H
      clear H
      try go_wp2
      replace HO_303003 := Aside0.mk (Kd.R_drew HO_303003.out)
      replace HO_303004 := Aside0.mk (Kd.R_drew HO_303004.out)
      replace HO_303005 := Aside0.mk (Kd.R_drew HO_303005.out)
      replace HO_316003 := Aside0.mk (Kd.R_drew HO_316003.out)
      replace HO_316004 := Aside0.mk (Kd.R_drew HO_316004.out)
      replace HO_316005 := Aside0.mk (Kd.R_drew HO_316005.out)
      replace HO_329003 := Aside0.mk (Kd.R_drew HO_329003.out)
      replace HO_329004 := Aside0.mk (Kd.R_drew HO_329004.out)
      replace HO_329005 := Aside0.mk (Kd.R_drew HO_329005.out)
      replace HO_343003 := Aside0.mk (Kd.R_drew HO_343003.out)
      replace HO_343004 := Aside0.mk (Kd.R_drew HO_343004.out)
      replace HO_343005 := Aside0.mk (Kd.R_drew HO_343005.out)
      replace BK261 := Aside0.mk (blk_drew BK261.out)
      replace BK262 := Aside0.mk (blk_drew BK262.out)
      replace BK302 := Aside0.mk (blk_drew BK302.out)
      replace BK315 := Aside0.mk (blk_drew BK315.out)
      replace BK328 := Aside0.mk (blk_drew BK328.out)
      replace BK342 := Aside0.mk (blk_drew BK342.out)
      replace HB := Aside0.mk (below_drew1 HB.out)
      refine start_ (n := 5) (S := fun w' => w'.cell? ⟨gb315, 0, none⟩ = some (.int .i64 t303) ∧ w'.cell? ⟨gb315, 1, none⟩ = some (.int .i64 t304) ∧ w'.cell? ⟨gb315, 2, none⟩ = some (.int .i64 t305) ∧ w'.cell? ⟨gb315, 3, none⟩ = some (.slice Ao63 t306.length co63) ∧ w'.cell? ⟨gb315, 4, none⟩ = some (.slice Ao64 t309.length co64) ∧ w'.cell? ⟨gb315, 5, none⟩ = some (.slice Ao65 t312.length co65) ∧ w'.cell? ⟨gb261, 0, none⟩ = some (.int .i64 a0_0) ∧ w'.cell? ⟨gb261, 1, none⟩ = some (.int .i64 a0_1) ∧ w'.cell? ⟨gb261, 2, none⟩ = some (.int .i64 a0_2) ∧ w'.cell? ⟨gb261, 3, none⟩ = some (.slice A0_3 l0_3.length c0_3) ∧ w'.cell? ⟨gb261, 4, none⟩ = some (.slice A0_4 l0_4.length c0_4) ∧ w'.cell? ⟨gb261, 5, none⟩ = some (.slice A0_5 l0_5.length c0_5)) (ds := []) #[false, false, false, false, false] (by kernel_rfl) rfl rfl (ca6x9 BK315.out (cc6x9 BK261.out)) (fun hHeld => ?_)
      generalize wc.drew = w120 at HO_303003 HO_303004 HO_303005 HO_316003 HO_316004 HO_316005 HO_329003 HO_329004 HO_329005 HO_343003 HO_343004 HO_343005 BK261 BK262 BK302 BK315 BK328 BK342 HB hHeld ⊢
      refine take_ (i := 0) (N := some 58) (v := ?_) (a' := ?_) #[true, false, false, false, false] rfl rfl (by kernel_rfl) (fun _ _ _ h => h) (Or.inl ⟨by rfl, ?_⟩) hHeld ?_ ?_
      rotate_left
      ·rintro w' ⟨s0, s1, s2, s3, s4, s5, s6, s7, s8, s9, s10, s11⟩
       go_simp
       with_reducible rfl
      rotate_left
      ·simp only [Act.put, List.setIfInBounds_toArray, List.set_cons_zero, List.set_cons_succ, i64_w, i32_w]
       rfl
      refine take_ (i := 1) (N := some 59) (v := ?_) (a' := ?_) #[true, true, false, false, false] rfl rfl (by kernel_rfl) (fun _ _ _ h => h) (Or.inl ⟨by rfl, ?_⟩) hHeld ?_ ?_
      rotate_left
      ·rintro w' ⟨s0, s1, s2, s3, s4, s5, s6, s7, s8, s9, s10, s11⟩
       go_simp
       with_reducible rfl
      rotate_left
      ·simp only [Act.put, List.setIfInBounds_toArray, List.set_cons_zero, List.set_cons_succ, i64_w, i32_w]
       rfl
      refine one_ (i := 2) (N := some 60) #[true, true, true, false, false] rfl rfl (by kernel_rfl) (by decide) (fun K hK => ?_)
      refine goes_ Try.func19 (by kernel_rfl) rfl #[.agg #[.int .i64 a0_0, .int .i64 a0_1, .int .i64 a0_2, .slice A0_3 l0_3.length c0_3, .slice A0_4 l0_4.length c0_4, .slice A0_5 l0_5.length c0_5]] (by rfl) rfl rfl mpx9 ?_
      with_reducible refine (laws_toModel.calls kj25 a0_0 a0_1 a0_2 _ _ l0_3 _ _ l0_4 _ _ l0_5 t344 t345 t346 t347 t350 t353 _ ?side1 ?side2 ?side3 ?side4 ?side5 ?side6 A117.out).mono ?_
      (case side1 => exact rCx9 (Kd.C_below HR0_3.out HB.out))
      (case side2 => exact HC0_3.out)
      (case side3 => exact rCx9 (Kd.C_below HR0_4.out HB.out))
      (case side4 => exact HC0_4.out)
      (case side5 => exact rCx9 (Kd.C_below HR0_5.out HB.out))
      (case side6 => exact HC0_5.out)
      rintro e w121 ⟨v348, v351, v354, rfl, ho0, ho1, ho2, hb⟩
      refine ⟨_, rfl, ?_⟩
      have HO349 := Aside0.mk (Kd.R_lower (nwx9 (nwx9 (nwx9 (nwx9 (nwx9 (nwx9 (nwx9 (nwx9 (nwx9 (nwx9 (nwx9 (nwx9 ho0 (rRx9 HO_303003.out)) (rRx9 HO_303004.out)) (rRx9 HO_303005.out)) (rRx9 HO_316003.out)) (rRx9 HO_316004.out)) (rRx9 HO_316005.out)) (rRx9 HO_329003.out)) (rRx9 HO_329004.out)) (rRx9 HO_329005.out)) (rRx9 HO_343003.out)) (rRx9 HO_343004.out)) (rRx9 HO_343005.out)) (below_size (be6x9 HB.out GE261.out GE262.out GE302.out GE315.out GE328.out GE342.out)))
      have HO352 := Aside0.mk (Kd.R_lower (nwx9 (nwx9 (nwx9 (nwx9 (nwx9 (nwx9 (nwx9 (nwx9 (nwx9 (nwx9 (nwx9 (nwx9 ho1 (rRx9 HO_303003.out)) (rRx9 HO_303004.out)) (rRx9 HO_303005.out)) (rRx9 HO_316003.out)) (rRx9 HO_316004.out)) (rRx9 HO_316005.out)) (rRx9 HO_329003.out)) (rRx9 HO_329004.out)) (rRx9 HO_329005.out)) (rRx9 HO_343003.out)) (rRx9 HO_343004.out)) (rRx9 HO_343005.out)) (below_size (be6x9 HB.out GE261.out GE262.out GE302.out GE315.out GE328.out GE342.out)))
      have HO355 := Aside0.mk (Kd.R_lower (nwx9 (nwx9 (nwx9 (nwx9 (nwx9 (nwx9 (nwx9 (nwx9 (nwx9 (nwx9 (nwx9 (nwx9 ho2 (rRx9 HO_303003.out)) (rRx9 HO_303004.out)) (rRx9 HO_303005.out)) (rRx9 HO_316003.out)) (rRx9 HO_316004.out)) (rRx9 HO_316005.out)) (rRx9 HO_329003.out)) (rRx9 HO_329004.out)) (rRx9 HO_329005.out)) (rRx9 HO_343003.out)) (rRx9 HO_343004.out)) (rRx9 HO_343005.out)) (below_size (be6x9 HB.out GE261.out GE262.out GE302.out GE315.out GE328.out GE342.out)))
      replace HO_303003 := Aside0.mk (kp3x9 (rRx9 HO_303003.out) hb ho0 ho1 ho2)
      replace HO_303004 := Aside0.mk (kp3x9 (rRx9 HO_303004.out) hb ho0 ho1 ho2)
      replace HO_303005 := Aside0.mk (kp3x9 (rRx9 HO_303005.out) hb ho0 ho1 ho2)
      replace HO_316003 := Aside0.mk (kp3x9 (rRx9 HO_316003.out) hb ho0 ho1 ho2)
      replace HO_316004 := Aside0.mk (kp3x9 (rRx9 HO_316004.out) hb ho0 ho1 ho2)
      replace HO_316005 := Aside0.mk (kp3x9 (rRx9 HO_316005.out) hb ho0 ho1 ho2)
      replace HO_329003 := Aside0.mk (kp3x9 (rRx9 HO_329003.out) hb ho0 ho1 ho2)
      replace HO_329004 := Aside0.mk (kp3x9 (rRx9 HO_329004.out) hb ho0 ho1 ho2)
      replace HO_329005 := Aside0.mk (kp3x9 (rRx9 HO_329005.out) hb ho0 ho1 ho2)
      replace HO_343003 := Aside0.mk (kp3x9 (rRx9 HO_343003.out) hb ho0 ho1 ho2)
      replace HO_343004 := Aside0.mk (kp3x9 (rRx9 HO_343004.out) hb ho0 ho1 ho2)
      replace HO_343005 := Aside0.mk (kp3x9 (rRx9 HO_343005.out) hb ho0 ho1 ho2)
      replace BK261 := Aside0.mk (blk_below (rBx9 BK261.out) hb)
      replace BK262 := Aside0.mk (blk_below (rBx9 BK262.out) hb)
      replace BK302 := Aside0.mk (blk_below (rBx9 BK302.out) hb)
      replace BK315 := Aside0.mk (blk_below (rBx9 BK315.out) hb)
      replace BK328 := Aside0.mk (blk_below (rBx9 BK328.out) hb)
      replace BK342 := Aside0.mk (blk_below (rBx9 BK342.out) hb)
      replace HB := Aside0.mk (below_step (be6x9 HB.out GE261.out GE262.out GE302.out GE315.out GE328.out GE342.out) hb)
      (try clear hb)
      (try clear hb2)
      (try clear hk)
      (try clear hi)
      (try clear ho0)
      (try clear ho1)
      (try clear ho2)
      obtain ⟨Ao122, co122, eo122⟩ := Kd.R_slice HO349.out
      (first | subst eo122 | (injection eo122 with f1_ f2_ f3_; have f4_ := f1_.symm; have f5_ := f3_.symm; clear f1_ f2_ f3_; subst f4_; subst f5_))
      obtain ⟨Ao123, co123, eo123⟩ := Kd.R_slice HO352.out
      (first | subst eo123 | (injection eo123 with f1_ f2_ f3_; have f4_ := f1_.symm; have f5_ := f3_.symm; clear f1_ f2_ f3_; subst f4_; subst f5_))
      obtain ⟨Ao124, co124, eo124⟩ := Kd.R_slice HO355.out
      (first | subst eo124 | (injection eo124 with f1_ f2_ f3_; have f4_ := f1_.symm; have f5_ := f3_.symm; clear f1_ f2_ f3_; subst f4_; subst f5_))
      refine hK.out _ _ (ca6x9 BK315.out (cc6x9 BK261.out)) (fun hHeld => ?_)
      clear hK K
      refine norm_ (a' := ?_) ?_ ?_
      rotate_left
      ·show Act.put _ (some 60) _ = _
       simp only [Act.put, List.setIfInBounds_toArray, List.set_cons_zero, List.set_cons_succ, i64_w, i32_w]
       rfl
      refine one_ (i := 3) (N := some 61) #[true, true, true, true, false] rfl rfl (by kernel_rfl) (by decide) (fun K hK => ?_)
      refine goes_ Try.func24 (by kernel_rfl) rfl #[.agg #[.int .i64 t303, .int .i64 t304, .int .i64 t305, .slice Ao63 t306.length co63, .slice Ao64 t309.length co64, .slice Ao65 t312.length co65], .agg #[.int .i64 t344, .int .i64 t345, .int .i64 t346, .slice Ao122 t347.length co122, .slice Ao123 t350.length co123, .slice Ao124 t353.length co124]] (by rfl) rfl rfl mpx9 ?_
      with_reducible refine (laws_eqModel.calls kj25 t303 t304 t305 _ _ t306 _ _ t309 _ _ t312 t344 t345 t346 _ _ t347 _ _ t350 _ _ t353 t356 _ ?side1 ?side2 ?side3 ?side4 ?side5 ?side6 ?side7 ?side8 ?side9 ?side10 ?side11 ?side12 A118.out).mono ?_
      (case side1 => exact cRx9 HO_316003.out)
      (case side2 => exact (Kd.R_reads' HO_316003.out).2.1)
      (case side3 => exact cRx9 HO_316004.out)
      (case side4 => exact (Kd.R_reads' HO_316004.out).2.1)
      (case side5 => exact cRx9 HO_316005.out)
      (case side6 => exact (Kd.R_reads' HO_316005.out).2.1)
      (case side7 => exact cRx9 HO349.out)
      (case side8 => exact (Kd.R_reads' HO349.out).2.1)
      (case side9 => exact cRx9 HO352.out)
      (case side10 => exact (Kd.R_reads' HO352.out).2.1)
      (case side11 => exact cRx9 HO355.out)
      (case side12 => exact (Kd.R_reads' HO355.out).2.1)
      rintro e w125 ⟨rfl, hb⟩
      refine ⟨_, rfl, ?_⟩
      replace HO_303003 := Aside0.mk (Kd.R_below (rRx9 HO_303003.out) hb)
      replace HO_303004 := Aside0.mk (Kd.R_below (rRx9 HO_303004.out) hb)
      replace HO_303005 := Aside0.mk (Kd.R_below (rRx9 HO_303005.out) hb)
      replace HO_316003 := Aside0.mk (Kd.R_below (rRx9 HO_316003.out) hb)
      replace HO_316004 := Aside0.mk (Kd.R_below (rRx9 HO_316004.out) hb)
      replace HO_316005 := Aside0.mk (Kd.R_below (rRx9 HO_316005.out) hb)
      replace HO_329003 := Aside0.mk (Kd.R_below (rRx9 HO_329003.out) hb)
      replace HO_329004 := Aside0.mk (Kd.R_below (rRx9 HO_329004.out) hb)
      replace HO_329005 := Aside0.mk (Kd.R_below (rRx9 HO_329005.out) hb)
      replace HO_343003 := Aside0.mk (Kd.R_below (rRx9 HO_343003.out) hb)
      replace HO_343004 := Aside0.mk (Kd.R_below (rRx9 HO_343004.out) hb)
      replace HO_343005 := Aside0.mk (Kd.R_below (rRx9 HO_343005.out) hb)
      replace HO349 := Aside0.mk (Kd.R_below (rRx9 HO349.out) hb)
      replace HO352 := Aside0.mk (Kd.R_below (rRx9 HO352.out) hb)
      replace HO355 := Aside0.mk (Kd.R_below (rRx9 HO355.out) hb)
      replace BK261 := Aside0.mk (blk_below (rBx9 BK261.out) hb)
      replace BK262 := Aside0.mk (blk_below (rBx9 BK262.out) hb)
      replace BK302 := Aside0.mk (blk_below (rBx9 BK302.out) hb)
      replace BK315 := Aside0.mk (blk_below (rBx9 BK315.out) hb)
      replace BK328 := Aside0.mk (blk_below (rBx9 BK328.out) hb)
      replace BK342 := Aside0.mk (blk_below (rBx9 BK342.out) hb)
      replace HB := Aside0.mk (below_step (be6x9 HB.out GE261.out GE262.out GE302.out GE315.out GE328.out GE342.out) hb)
      (try clear hb)
      (try clear hb2)
      (try clear hk)
      (try clear hi)
      refine hK.out _ _ (ca6x9 BK315.out (cc6x9 BK261.out)) (fun hHeld => ?_)
      clear hK K
      refine norm_ (a' := ?_) ?_ ?_
      rotate_left
      ·show Act.put _ (some 61) _ = _
       simp only [Act.put, List.setIfInBounds_toArray, List.set_cons_zero, List.set_cons_succ, i64_w, i32_w]
       rfl
      refine pure_ (i := 4) (N := some 62) (v := ?_) (a' := ?_) #[true, true, true, true, true] rfl rfl (by kernel_rfl) (fun _ _ _ h => h) (Or.inl ⟨by rfl, ?_⟩) ?_ ?_
      rotate_left
      ·intro w'
       go_simp
       with_reducible rfl
      rotate_left
      ·simp only [Act.put, List.setIfInBounds_toArray, List.set_cons_zero, List.set_cons_succ, i64_w, i32_w]
       rfl
      refine done_ (by kernel_rfl) ?_
      go_upto_if 62 with (fail)
      go_cut [] (fun wc => ∃ (kq : Nat), Aside0 (laws_FnExactMixModels.j1 kq a2 t301 t341 a0_0 a0_1 a0_2 l0_3 l0_4 l0_5 a1_0 a1_1 a1_2 l1_3 l1_4 l1_5 t289 t290 t291 t292 t295 t298 t303 t304 t305 t306 t309 t312 t316 t317 t318 t319 t322 t325 t329 t330 t331 t332 t335 t338 = some r) ∧ Aside0 (kq ≤ kj25) ∧ Aside0 (Kd.R (Kd.int .i64) 3 wc w.heap.size (fun k_ => some k_ ≠ ((.slice Ao51 t295.length co51) : Value).ownBlock ∧ some k_ ≠ ((.slice Ao53 t298.length co53) : Value).ownBlock ∧ some k_ ≠ ((.slice Ao63 t306.length co63) : Value).ownBlock ∧ some k_ ≠ ((.slice Ao64 t309.length co64) : Value).ownBlock ∧ some k_ ≠ ((.slice Ao65 t312.length co65) : Value).ownBlock ∧ some k_ ≠ ((.slice Ao75 t319.length co75) : Value).ownBlock ∧ some k_ ≠ ((.slice Ao76 t322.length co76) : Value).ownBlock ∧ some k_ ≠ ((.slice Ao77 t325.length co77) : Value).ownBlock ∧ some k_ ≠ ((.slice Ao87 t332.length co87) : Value).ownBlock ∧ some k_ ≠ ((.slice Ao88 t335.length co88) : Value).ownBlock ∧ some k_ ≠ ((.slice Ao89 t338.length co89) : Value).ownBlock) (.slice Ao49 t292.length co49) t292) ∧ Aside0 (Kd.R (Kd.int .i64) 3 wc w.heap.size (fun k_ => some k_ ≠ ((.slice Ao49 t292.length co49) : Value).ownBlock ∧ some k_ ≠ ((.slice Ao53 t298.length co53) : Value).ownBlock ∧ some k_ ≠ ((.slice Ao63 t306.length co63) : Value).ownBlock ∧ some k_ ≠ ((.slice Ao64 t309.length co64) : Value).ownBlock ∧ some k_ ≠ ((.slice Ao65 t312.length co65) : Value).ownBlock ∧ some k_ ≠ ((.slice Ao75 t319.length co75) : Value).ownBlock ∧ some k_ ≠ ((.slice Ao76 t322.length co76) : Value).ownBlock ∧ some k_ ≠ ((.slice Ao77 t325.length co77) : Value).ownBlock ∧ some k_ ≠ ((.slice Ao87 t332.length co87) : Value).ownBlock ∧ some k_ ≠ ((.slice Ao88 t335.length co88) : Value).ownBlock ∧ some k_ ≠ ((.slice Ao89 t338.length co89) : Value).ownBlock) (.slice Ao51 t295.length co51) t295) ∧ Aside0 (Kd.R (Kd.int .i64) 3 wc w.heap.size (fun k_ => some k_ ≠ ((.slice Ao49 t292.length co49) : Value).ownBlock ∧ some k_ ≠ ((.slice Ao51 t295.length co51) : Value).ownBlock ∧ some k_ ≠ ((.slice Ao63 t306.length co63) : Value).ownBlock ∧ some k_ ≠ ((.slice Ao64 t309.length co64) : Value).ownBlock ∧ some k_ ≠ ((.slice Ao65 t312.length co65) : Value).ownBlock ∧ some k_ ≠ ((.slice Ao75 t319.length co75) : Value).ownBlock ∧ some k_ ≠ ((.slice Ao76 t322.length co76) : Value).ownBlock ∧ some k_ ≠ ((.slice Ao77 t325.length co77) : Value).ownBlock ∧ some k_ ≠ ((.slice Ao87 t332.length co87) : Value).ownBlock ∧ some k_ ≠ ((.slice Ao88 t335.length co88) : Value).ownBlock ∧ some k_ ≠ ((.slice Ao89 t338.length co89) : Value).ownBlock) (.slice Ao53 t298.length co53) t298) ∧ Aside0 (Kd.R (Kd.int .i64) 3 wc w.heap.size (fun k_ => some k_ ≠ ((.slice Ao49 t292.length co49) : Value).ownBlock ∧ some k_ ≠ ((.slice Ao51 t295.length co51) : Value).ownBlock ∧ some k_ ≠ ((.slice Ao53 t298.length co53) : Value).ownBlock ∧ some k_ ≠ ((.slice Ao64 t309.length co64) : Value).ownBlock ∧ some k_ ≠ ((.slice Ao65 t312.length co65) : Value).ownBlock ∧ some k_ ≠ ((.slice Ao75 t319.length co75) : Value).ownBlock ∧ some k_ ≠ ((.slice Ao76 t322.length co76) : Value).ownBlock ∧ some k_ ≠ ((.slice Ao77 t325.length co77) : Value).ownBlock ∧ some k_ ≠ ((.slice Ao87 t332.length co87) : Value).ownBlock ∧ some k_ ≠ ((.slice Ao88 t335.length co88) : Value).ownBlock ∧ some k_ ≠ ((.slice Ao89 t338.length co89) : Value).ownBlock) (.slice Ao63 t306.length co63) t306) ∧ Aside0 (Kd.R (Kd.int .i64) 3 wc w.heap.size (fun k_ => some k_ ≠ ((.slice Ao49 t292.length co49) : Value).ownBlock ∧ some k_ ≠ ((.slice Ao51 t295.length co51) : Value).ownBlock ∧ some k_ ≠ ((.slice Ao53 t298.length co53) : Value).ownBlock ∧ some k_ ≠ ((.slice Ao63 t306.length co63) : Value).ownBlock ∧ some k_ ≠ ((.slice Ao65 t312.length co65) : Value).ownBlock ∧ some k_ ≠ ((.slice Ao75 t319.length co75) : Value).ownBlock ∧ some k_ ≠ ((.slice Ao76 t322.length co76) : Value).ownBlock ∧ some k_ ≠ ((.slice Ao77 t325.length co77) : Value).ownBlock ∧ some k_ ≠ ((.slice Ao87 t332.length co87) : Value).ownBlock ∧ some k_ ≠ ((.slice Ao88 t335.length co88) : Value).ownBlock ∧ some k_ ≠ ((.slice Ao89 t338.length co89) : Value).ownBlock) (.slice Ao64 t309.length co64) t309) ∧ Aside0 (Kd.R (Kd.int .i64) 3 wc w.heap.size (fun k_ => some k_ ≠ ((.slice Ao49 t292.length co49) : Value).ownBlock ∧ some k_ ≠ ((.slice Ao51 t295.length co51) : Value).ownBlock ∧ some k_ ≠ ((.slice Ao53 t298.length co53) : Value).ownBlock ∧ some k_ ≠ ((.slice Ao63 t306.length co63) : Value).ownBlock ∧ some k_ ≠ ((.slice Ao64 t309.length co64) : Value).ownBlock ∧ some k_ ≠ ((.slice Ao75 t319.length co75) : Value).ownBlock ∧ some k_ ≠ ((.slice Ao76 t322.length co76) : Value).ownBlock ∧ some k_ ≠ ((.slice Ao77 t325.length co77) : Value).ownBlock ∧ some k_ ≠ ((.slice Ao87 t332.length co87) : Value).ownBlock ∧ some k_ ≠ ((.slice Ao88 t335.length co88) : Value).ownBlock ∧ some k_ ≠ ((.slice Ao89 t338.length co89) : Value).ownBlock) (.slice Ao65 t312.length co65) t312) ∧ Aside0 (Kd.R (Kd.int .i64) 3 wc w.heap.size (fun k_ => some k_ ≠ ((.slice Ao49 t292.length co49) : Value).ownBlock ∧ some k_ ≠ ((.slice Ao51 t295.length co51) : Value).ownBlock ∧ some k_ ≠ ((.slice Ao53 t298.length co53) : Value).ownBlock ∧ some k_ ≠ ((.slice Ao63 t306.length co63) : Value).ownBlock ∧ some k_ ≠ ((.slice Ao64 t309.length co64) : Value).ownBlock ∧ some k_ ≠ ((.slice Ao65 t312.length co65) : Value).ownBlock ∧ some k_ ≠ ((.slice Ao76 t322.length co76) : Value).ownBlock ∧ some k_ ≠ ((.slice Ao77 t325.length co77) : Value).ownBlock ∧ some k_ ≠ ((.slice Ao87 t332.length co87) : Value).ownBlock ∧ some k_ ≠ ((.slice Ao88 t335.length co88) : Value).ownBlock ∧ some k_ ≠ ((.slice Ao89 t338.length co89) : Value).ownBlock) (.slice Ao75 t319.length co75) t319) ∧ Aside0 (Kd.R (Kd.int .i64) 3 wc w.heap.size (fun k_ => some k_ ≠ ((.slice Ao49 t292.length co49) : Value).ownBlock ∧ some k_ ≠ ((.slice Ao51 t295.length co51) : Value).ownBlock ∧ some k_ ≠ ((.slice Ao53 t298.length co53) : Value).ownBlock ∧ some k_ ≠ ((.slice Ao63 t306.length co63) : Value).ownBlock ∧ some k_ ≠ ((.slice Ao64 t309.length co64) : Value).ownBlock ∧ some k_ ≠ ((.slice Ao65 t312.length co65) : Value).ownBlock ∧ some k_ ≠ ((.slice Ao75 t319.length co75) : Value).ownBlock ∧ some k_ ≠ ((.slice Ao77 t325.length co77) : Value).ownBlock ∧ some k_ ≠ ((.slice Ao87 t332.length co87) : Value).ownBlock ∧ some k_ ≠ ((.slice Ao88 t335.length co88) : Value).ownBlock ∧ some k_ ≠ ((.slice Ao89 t338.length co89) : Value).ownBlock) (.slice Ao76 t322.length co76) t322) ∧ Aside0 (Kd.R (Kd.int .i64) 3 wc w.heap.size (fun k_ => some k_ ≠ ((.slice Ao49 t292.length co49) : Value).ownBlock ∧ some k_ ≠ ((.slice Ao51 t295.length co51) : Value).ownBlock ∧ some k_ ≠ ((.slice Ao53 t298.length co53) : Value).ownBlock ∧ some k_ ≠ ((.slice Ao63 t306.length co63) : Value).ownBlock ∧ some k_ ≠ ((.slice Ao64 t309.length co64) : Value).ownBlock ∧ some k_ ≠ ((.slice Ao65 t312.length co65) : Value).ownBlock ∧ some k_ ≠ ((.slice Ao75 t319.length co75) : Value).ownBlock ∧ some k_ ≠ ((.slice Ao76 t322.length co76) : Value).ownBlock ∧ some k_ ≠ ((.slice Ao87 t332.length co87) : Value).ownBlock ∧ some k_ ≠ ((.slice Ao88 t335.length co88) : Value).ownBlock ∧ some k_ ≠ ((.slice Ao89 t338.length co89) : Value).ownBlock) (.slice Ao77 t325.length co77) t325) ∧ Aside0 (Kd.R (Kd.int .i64) 3 wc w.heap.size (fun k_ => some k_ ≠ ((.slice Ao49 t292.length co49) : Value).ownBlock ∧ some k_ ≠ ((.slice Ao51 t295.length co51) : Value).ownBlock ∧ some k_ ≠ ((.slice Ao53 t298.length co53) : Value).ownBlock ∧ some k_ ≠ ((.slice Ao63 t306.length co63) : Value).ownBlock ∧ some k_ ≠ ((.slice Ao64 t309.length co64) : Value).ownBlock ∧ some k_ ≠ ((.slice Ao65 t312.length co65) : Value).ownBlock ∧ some k_ ≠ ((.slice Ao75 t319.length co75) : Value).ownBlock ∧ some k_ ≠ ((.slice Ao76 t322.length co76) : Value).ownBlock ∧ some k_ ≠ ((.slice Ao77 t325.length co77) : Value).ownBlock ∧ some k_ ≠ ((.slice Ao88 t335.length co88) : Value).ownBlock ∧ some k_ ≠ ((.slice Ao89 t338.length co89) : Value).ownBlock) (.slice Ao87 t332.length co87) t332) ∧ Aside0 (Kd.R (Kd.int .i64) 3 wc w.heap.size (fun k_ => some k_ ≠ ((.slice Ao49 t292.length co49) : Value).ownBlock ∧ some k_ ≠ ((.slice Ao51 t295.length co51) : Value).ownBlock ∧ some k_ ≠ ((.slice Ao53 t298.length co53) : Value).ownBlock ∧ some k_ ≠ ((.slice Ao63 t306.length co63) : Value).ownBlock ∧ some k_ ≠ ((.slice Ao64 t309.length co64) : Value).ownBlock ∧ some k_ ≠ ((.slice Ao65 t312.length co65) : Value).ownBlock ∧ some k_ ≠ ((.slice Ao75 t319.length co75) : Value).ownBlock ∧ some k_ ≠ ((.slice Ao76 t322.length co76) : Value).ownBlock ∧ some k_ ≠ ((.slice Ao77 t325.length co77) : Value).ownBlock ∧ some k_ ≠ ((.slice Ao87 t332.length co87) : Value).ownBlock ∧ some k_ ≠ ((.slice Ao89 t338.length co89) : Value).ownBlock) (.slice Ao88 t335.length co88) t335) ∧ Aside0 (Kd.R (Kd.int .i64) 3 wc w.heap.size (fun k_ => some k_ ≠ ((.slice Ao49 t292.length co49) : Value).ownBlock ∧ some k_ ≠ ((.slice Ao51 t295.length co51) : Value).ownBlock ∧ some k_ ≠ ((.slice Ao53 t298.length co53) : Value).ownBlock ∧ some k_ ≠ ((.slice Ao63 t306.length co63) : Value).ownBlock ∧ some k_ ≠ ((.slice Ao64 t309.length co64) : Value).ownBlock ∧ some k_ ≠ ((.slice Ao65 t312.length co65) : Value).ownBlock ∧ some k_ ≠ ((.slice Ao75 t319.length co75) : Value).ownBlock ∧ some k_ ≠ ((.slice Ao76 t322.length co76) : Value).ownBlock ∧ some k_ ≠ ((.slice Ao77 t325.length co77) : Value).ownBlock ∧ some k_ ≠ ((.slice Ao87 t332.length co87) : Value).ownBlock ∧ some k_ ≠ ((.slice Ao88 t335.length co88) : Value).ownBlock) (.slice Ao89 t338.length co89) t338) ∧ Aside0 (wc.heap[gb261]? = some (.cells #[.int .i64 a0_0, .int .i64 a0_1, .int .i64 a0_2, (.slice A0_3 l0_3.length c0_3), (.slice A0_4 l0_4.length c0_4), (.slice A0_5 l0_5.length c0_5)] 26 (0, 0))) ∧ Aside0 (wc.heap[gb262]? = some (.cells #[.int .i64 a1_0, .int .i64 a1_1, .int .i64 a1_2, (.slice A1_3 l1_3.length c1_3), (.slice A1_4 l1_4.length c1_4), (.slice A1_5 l1_5.length c1_5)] 26 (0, 0))) ∧ Aside0 (wc.heap[gb302]? = some (.cells #[.int .i64 t289, .int .i64 t290, .int .i64 t291, (.slice Ao49 t292.length co49), (.slice Ao51 t295.length co51), (.slice Ao53 t298.length co53)] 41 (0, 0))) ∧ Aside0 (wc.heap[gb315]? = some (.cells #[.int .i64 t303, .int .i64 t304, .int .i64 t305, (.slice Ao63 t306.length co63), (.slice Ao64 t309.length co64), (.slice Ao65 t312.length co65)] 41 (0, 0))) ∧ Aside0 (wc.heap[gb328]? = some (.cells #[.int .i64 t316, .int .i64 t317, .int .i64 t318, (.slice Ao75 t319.length co75), (.slice Ao76 t322.length co76), (.slice Ao77 t325.length co77)] 41 (0, 0))) ∧ Aside0 (wc.heap[gb342]? = some (.cells #[.int .i64 t329, .int .i64 t330, .int .i64 t331, (.slice Ao87 t332.length co87), (.slice Ao88 t335.length co88), (.slice Ao89 t338.length co89)] 41 (0, 0))) ∧ Aside0 (Below w.heap.size w wc))
      case first =>
       have H := HC119.out
       clear HC119
       by_cases c126 : t356 = true
       ·subst c126
        have H1 : (laws_FnExactMixModels.j1 kj25 a2 t301 t341 a0_0 a0_1 a0_2 l0_3 l0_4 l0_5 a1_0 a1_1 a1_2 l1_3 l1_4 l1_5 t289 t290 t291 t292 t295 t298 t303 t304 t305 t306 t309 t312 t316 t317 t318 t319 t322 t325 t329 t330 t331 t332 t335 t338) = some r := by rw [if_pos rfl] at H; exact H
        clear H
        have H := H1
        clear H1
        have H' := Aside0.mk H
        clear H
        go_wp2
        go_meet
        case rel => exact ⟨_, H', ⟨by have := HJ25.out; first | omega | exact Nat.le_refl _⟩, ⟨by exact rRx9 (mox9 HO_303003.out)⟩, ⟨by exact rRx9 (mox9 HO_303004.out)⟩, ⟨by exact rRx9 (mox9 HO_303005.out)⟩, ⟨by exact rRx9 (mox9 HO_316003.out)⟩, ⟨by exact rRx9 (mox9 HO_316004.out)⟩, ⟨by exact rRx9 (mox9 HO_316005.out)⟩, ⟨by exact rRx9 (mox9 HO_329003.out)⟩, ⟨by exact rRx9 (mox9 HO_329004.out)⟩, ⟨by exact rRx9 (mox9 HO_329005.out)⟩, ⟨by exact rRx9 (mox9 HO_343003.out)⟩, ⟨by exact rRx9 (mox9 HO_343004.out)⟩, ⟨by exact rRx9 (mox9 HO_343005.out)⟩, ⟨rBx9 BK261.out⟩, ⟨rBx9 BK262.out⟩, ⟨rBx9 BK302.out⟩, ⟨rBx9 BK315.out⟩, ⟨rBx9 BK328.out⟩, ⟨rBx9 BK342.out⟩, ⟨be6x9 HB.out GE261.out GE262.out GE302.out GE315.out GE328.out GE342.out⟩⟩
       ·replace c126 := Bool.eq_false_iff.mpr c126
        subst c126
        have H1 : (some false) = some r := by rw [if_neg (show ¬ (false = true) by decide)] at H; exact H
        clear H
        have H := H1
        clear H1
        obtain rfl := Option.some.inj H
        go_wp2
        go_ret
        exact ⟨by first | rfl | (simp [errW_none, errW_some] <;> rfl) | (simp [*, errW_none, errW_some] <;> rfl), be6x9 HB.out GE261.out GE262.out GE302.out GE315.out GE328.out GE342.out⟩
      case rest =>
       clear HC119
       try clear c12; try clear c116; try clear c126
       obtain ⟨kq, HA, HJ118, HO_303003, HO_303004, HO_303005, HO_316003, HO_316004, HO_316005, HO_329003, HO_329004, HO_329005, HO_343003, HO_343004, HO_343005, BK261, BK262, BK302, BK315, BK328, BK342, HB⟩ := hcut
       cases kq with
       | zero => exact absurd HA.out (by simp [laws_FnExactMixModels.j1])
       | succ kj118 =>
        have H := HA.out
        clear HA
        simp only [laws_FnExactMixModels.j1] at H
        replace H := Option.bind_eq_some_iff.mp H
        obtain ⟨⟨t357, t358, t359, t360, t363, t366⟩, A1270, H⟩ := H
        (try dsimp only at H)
        have A127 := Aside0.mk A1270
        clear A1270
        replace H := Option.bind_eq_some_iff.mp H
        obtain ⟨t369, A1280, H⟩ := H
        have A128 := Aside0.mk A1280
        clear A1280
        have HC129 := Aside0.mk H
        clear H
        try go_wp2
        replace HO_303003 := Aside0.mk (Kd.R_drew HO_303003.out)
        replace HO_303004 := Aside0.mk (Kd.R_drew HO_303004.out)
        replace HO_303005 := Aside0.mk (Kd.R_drew HO_303005.out)
        replace HO_316003 := Aside0.mk (Kd.R_drew HO_316003.out)
        replace HO_316004 := Aside0.mk (Kd.R_drew HO_316004.out)
        replace HO_316005 := Aside0.mk (Kd.R_drew HO_316005.out)
        replace HO_329003 := Aside0.mk (Kd.R_drew HO_329003.out)
        replace HO_329004 := Aside0.mk (Kd.R_drew HO_329004.out)
        replace HO_329005 := Aside0.mk (Kd.R_drew HO_329005.out)
        replace HO_343003 := Aside0.mk (Kd.R_drew HO_343003.out)
        replace HO_343004 := Aside0.mk (Kd.R_drew HO_343004.out)
        replace HO_343005 := Aside0.mk (Kd.R_drew HO_343005.out)
        replace BK261 := Aside0.mk (blk_drew BK261.out)
        replace BK262 := Aside0.mk (blk_drew BK262.out)
        replace BK302 := Aside0.mk (blk_drew BK302.out)
        replace BK315 := Aside0.mk (blk_drew BK315.out)
        replace BK328 := Aside0.mk (blk_drew BK328.out)
        replace BK342 := Aside0.mk (blk_drew BK342.out)
        replace HB := Aside0.mk (below_drew1 HB.out)
        refine start_ (n := 5) (S := fun w' => w'.cell? ⟨gb328, 0, none⟩ = some (.int .i64 t316) ∧ w'.cell? ⟨gb328, 1, none⟩ = some (.int .i64 t317) ∧ w'.cell? ⟨gb328, 2, none⟩ = some (.int .i64 t318) ∧ w'.cell? ⟨gb328, 3, none⟩ = some (.slice Ao75 t319.length co75) ∧ w'.cell? ⟨gb328, 4, none⟩ = some (.slice Ao76 t322.length co76) ∧ w'.cell? ⟨gb328, 5, none⟩ = some (.slice Ao77 t325.length co77) ∧ w'.cell? ⟨gb262, 0, none⟩ = some (.int .i64 a1_0) ∧ w'.cell? ⟨gb262, 1, none⟩ = some (.int .i64 a1_1) ∧ w'.cell? ⟨gb262, 2, none⟩ = some (.int .i64 a1_2) ∧ w'.cell? ⟨gb262, 3, none⟩ = some (.slice A1_3 l1_3.length c1_3) ∧ w'.cell? ⟨gb262, 4, none⟩ = some (.slice A1_4 l1_4.length c1_4) ∧ w'.cell? ⟨gb262, 5, none⟩ = some (.slice A1_5 l1_5.length c1_5)) (ds := []) #[false, false, false, false, false] (by kernel_rfl) rfl rfl (ca6x9 BK328.out (cc6x9 BK262.out)) (fun hHeld => ?_)
        generalize wc.drew = w130 at HO_303003 HO_303004 HO_303005 HO_316003 HO_316004 HO_316005 HO_329003 HO_329004 HO_329005 HO_343003 HO_343004 HO_343005 BK261 BK262 BK302 BK315 BK328 BK342 HB hHeld ⊢
        refine take_ (i := 0) (N := some 63) (v := ?_) (a' := ?_) #[true, false, false, false, false] rfl rfl (by kernel_rfl) (fun _ _ _ h => h) (Or.inl ⟨by rfl, ?_⟩) hHeld ?_ ?_
        rotate_left
        ·rintro w' ⟨s0, s1, s2, s3, s4, s5, s6, s7, s8, s9, s10, s11⟩
         go_simp
         with_reducible rfl
        rotate_left
        ·simp only [Act.put, List.setIfInBounds_toArray, List.set_cons_zero, List.set_cons_succ, i64_w, i32_w]
         rfl
        refine take_ (i := 1) (N := some 64) (v := ?_) (a' := ?_) #[true, true, false, false, false] rfl rfl (by kernel_rfl) (fun _ _ _ h => h) (Or.inl ⟨by rfl, ?_⟩) hHeld ?_ ?_
        rotate_left
        ·rintro w' ⟨s0, s1, s2, s3, s4, s5, s6, s7, s8, s9, s10, s11⟩
         go_simp
         with_reducible rfl
        rotate_left
        ·simp only [Act.put, List.setIfInBounds_toArray, List.set_cons_zero, List.set_cons_succ, i64_w, i32_w]
         rfl
        refine one_ (i := 2) (N := some 65) #[true, true, true, false, false] rfl rfl (by kernel_rfl) (by decide) (fun K hK => ?_)
        refine goes_ Try.func19 (by kernel_rfl) rfl #[.agg #[.int .i64 a1_0, .int .i64 a1_1, .int .i64 a1_2, .slice A1_3 l1_3.length c1_3, .slice A1_4 l1_4.length c1_4, .slice A1_5 l1_5.length c1_5]] (by rfl) rfl rfl mpx9 ?_
        with_reducible refine (laws_toModel.calls kj118 a1_0 a1_1 a1_2 _ _ l1_3 _ _ l1_4 _ _ l1_5 t357 t358 t359 t360 t363 t366 _ ?side1 ?side2 ?side3 ?side4 ?side5 ?side6 A127.out).mono ?_
        (case side1 => exact rCx9 (Kd.C_below HR1_3.out HB.out))
        (case side2 => exact HC1_3.out)
        (case side3 => exact rCx9 (Kd.C_below HR1_4.out HB.out))
        (case side4 => exact HC1_4.out)
        (case side5 => exact rCx9 (Kd.C_below HR1_5.out HB.out))
        (case side6 => exact HC1_5.out)
        rintro e w131 ⟨v361, v364, v367, rfl, ho0, ho1, ho2, hb⟩
        refine ⟨_, rfl, ?_⟩
        have HO362 := Aside0.mk (Kd.R_lower (nwx9 (nwx9 (nwx9 (nwx9 (nwx9 (nwx9 (nwx9 (nwx9 (nwx9 (nwx9 (nwx9 (nwx9 ho0 (rRx9 HO_303003.out)) (rRx9 HO_303004.out)) (rRx9 HO_303005.out)) (rRx9 HO_316003.out)) (rRx9 HO_316004.out)) (rRx9 HO_316005.out)) (rRx9 HO_329003.out)) (rRx9 HO_329004.out)) (rRx9 HO_329005.out)) (rRx9 HO_343003.out)) (rRx9 HO_343004.out)) (rRx9 HO_343005.out)) (below_size (be6x9 HB.out GE261.out GE262.out GE302.out GE315.out GE328.out GE342.out)))
        have HO365 := Aside0.mk (Kd.R_lower (nwx9 (nwx9 (nwx9 (nwx9 (nwx9 (nwx9 (nwx9 (nwx9 (nwx9 (nwx9 (nwx9 (nwx9 ho1 (rRx9 HO_303003.out)) (rRx9 HO_303004.out)) (rRx9 HO_303005.out)) (rRx9 HO_316003.out)) (rRx9 HO_316004.out)) (rRx9 HO_316005.out)) (rRx9 HO_329003.out)) (rRx9 HO_329004.out)) (rRx9 HO_329005.out)) (rRx9 HO_343003.out)) (rRx9 HO_343004.out)) (rRx9 HO_343005.out)) (below_size (be6x9 HB.out GE261.out GE262.out GE302.out GE315.out GE328.out GE342.out)))
        have HO368 := Aside0.mk (Kd.R_lower (nwx9 (nwx9 (nwx9 (nwx9 (nwx9 (nwx9 (nwx9 (nwx9 (nwx9 (nwx9 (nwx9 (nwx9 ho2 (rRx9 HO_303003.out)) (rRx9 HO_303004.out)) (rRx9 HO_303005.out)) (rRx9 HO_316003.out)) (rRx9 HO_316004.out)) (rRx9 HO_316005.out)) (rRx9 HO_329003.out)) (rRx9 HO_329004.out)) (rRx9 HO_329005.out)) (rRx9 HO_343003.out)) (rRx9 HO_343004.out)) (rRx9 HO_343005.out)) (below_size (be6x9 HB.out GE261.out GE262.out GE302.out GE315.out GE328.out GE342.out)))
        replace HO_303003 := Aside0.mk (kp3x9 (rRx9 HO_303003.out) hb ho0 ho1 ho2)
        replace HO_303004 := Aside0.mk (kp3x9 (rRx9 HO_303004.out) hb ho0 ho1 ho2)
        replace HO_303005 := Aside0.mk (kp3x9 (rRx9 HO_303005.out) hb ho0 ho1 ho2)
        replace HO_316003 := Aside0.mk (kp3x9 (rRx9 HO_316003.out) hb ho0 ho1 ho2)
        replace HO_316004 := Aside0.mk (kp3x9 (rRx9 HO_316004.out) hb ho0 ho1 ho2)
        replace HO_316005 := Aside0.mk (kp3x9 (rRx9 HO_316005.out) hb ho0 ho1 ho2)
        replace HO_329003 := Aside0.mk (kp3x9 (rRx9 HO_329003.out) hb ho0 ho1 ho2)
        replace HO_329004 := Aside0.mk (kp3x9 (rRx9 HO_329004.out) hb ho0 ho1 ho2)
        replace HO_329005 := Aside0.mk (kp3x9 (rRx9 HO_329005.out) hb ho0 ho1 ho2)
        replace HO_343003 := Aside0.mk (kp3x9 (rRx9 HO_343003.out) hb ho0 ho1 ho2)
        replace HO_343004 := Aside0.mk (kp3x9 (rRx9 HO_343004.out) hb ho0 ho1 ho2)
        replace HO_343005 := Aside0.mk (kp3x9 (rRx9 HO_343005.out) hb ho0 ho1 ho2)
        replace BK261 := Aside0.mk (blk_below (rBx9 BK261.out) hb)
        replace BK262 := Aside0.mk (blk_below (rBx9 BK262.out) hb)
        replace BK302 := Aside0.mk (blk_below (rBx9 BK302.out) hb)
        replace BK315 := Aside0.mk (blk_below (rBx9 BK315.out) hb)
        replace BK328 := Aside0.mk (blk_below (rBx9 BK328.out) hb)
        replace BK342 := Aside0.mk (blk_below (rBx9 BK342.out) hb)
        replace HB := Aside0.mk (below_step (be6x9 HB.out GE261.out GE262.out GE302.out GE315.out GE328.out GE342.out) hb)
        (try clear hb)
        (try clear hb2)
        (try clear hk)
        (try clear hi)
        (try clear ho0)
        (try clear ho1)
        (try clear ho2)
        obtain ⟨Ao132, co132, eo132⟩ := Kd.R_slice HO362.out
        (first | subst eo132 | (injection eo132 with f1_ f2_ f3_; have f4_ := f1_.symm; have f5_ := f3_.symm; clear f1_ f2_ f3_; subst f4_; subst f5_))
        obtain ⟨Ao133, co133, eo133⟩ := Kd.R_slice HO365.out
        (first | subst eo133 | (injection eo133 with f1_ f2_ f3_; have f4_ := f1_.symm; have f5_ := f3_.symm; clear f1_ f2_ f3_; subst f4_; subst f5_))
        obtain ⟨Ao134, co134, eo134⟩ := Kd.R_slice HO368.out
        (first | subst eo134 | (injection eo134 with f1_ f2_ f3_; have f4_ := f1_.symm; have f5_ := f3_.symm; clear f1_ f2_ f3_; subst f4_; subst f5_))
        refine hK.out _ _ (ca6x9 BK328.out (cc6x9 BK262.out)) (fun hHeld => ?_)
        clear hK K
        refine norm_ (a' := ?_) ?_ ?_
        rotate_left
        ·show Act.put _ (some 65) _ = _
         simp only [Act.put, List.setIfInBounds_toArray, List.set_cons_zero, List.set_cons_succ, i64_w, i32_w]
         rfl
        refine one_ (i := 3) (N := some 66) #[true, true, true, true, false] rfl rfl (by kernel_rfl) (by decide) (fun K hK => ?_)
        refine goes_ Try.func24 (by kernel_rfl) rfl #[.agg #[.int .i64 t316, .int .i64 t317, .int .i64 t318, .slice Ao75 t319.length co75, .slice Ao76 t322.length co76, .slice Ao77 t325.length co77], .agg #[.int .i64 t357, .int .i64 t358, .int .i64 t359, .slice Ao132 t360.length co132, .slice Ao133 t363.length co133, .slice Ao134 t366.length co134]] (by rfl) rfl rfl mpx9 ?_
        with_reducible refine (laws_eqModel.calls kj118 t316 t317 t318 _ _ t319 _ _ t322 _ _ t325 t357 t358 t359 _ _ t360 _ _ t363 _ _ t366 t369 _ ?side1 ?side2 ?side3 ?side4 ?side5 ?side6 ?side7 ?side8 ?side9 ?side10 ?side11 ?side12 A128.out).mono ?_
        (case side1 => exact cRx9 HO_329003.out)
        (case side2 => exact (Kd.R_reads' HO_329003.out).2.1)
        (case side3 => exact cRx9 HO_329004.out)
        (case side4 => exact (Kd.R_reads' HO_329004.out).2.1)
        (case side5 => exact cRx9 HO_329005.out)
        (case side6 => exact (Kd.R_reads' HO_329005.out).2.1)
        (case side7 => exact cRx9 HO362.out)
        (case side8 => exact (Kd.R_reads' HO362.out).2.1)
        (case side9 => exact cRx9 HO365.out)
        (case side10 => exact (Kd.R_reads' HO365.out).2.1)
        (case side11 => exact cRx9 HO368.out)
        (case side12 => exact (Kd.R_reads' HO368.out).2.1)
        rintro e w135 ⟨rfl, hb⟩
        refine ⟨_, rfl, ?_⟩
        replace HO_303003 := Aside0.mk (Kd.R_below (rRx9 HO_303003.out) hb)
        replace HO_303004 := Aside0.mk (Kd.R_below (rRx9 HO_303004.out) hb)
        replace HO_303005 := Aside0.mk (Kd.R_below (rRx9 HO_303005.out) hb)
        replace HO_316003 := Aside0.mk (Kd.R_below (rRx9 HO_316003.out) hb)
        replace HO_316004 := Aside0.mk (Kd.R_below (rRx9 HO_316004.out) hb)
        replace HO_316005 := Aside0.mk (Kd.R_below (rRx9 HO_316005.out) hb)
        replace HO_329003 := Aside0.mk (Kd.R_below (rRx9 HO_329003.out) hb)
        replace HO_329004 := Aside0.mk (Kd.R_below (rRx9 HO_329004.out) hb)
        replace HO_329005 := Aside0.mk (Kd.R_below (rRx9 HO_329005.out) hb)
        replace HO_343003 := Aside0.mk (Kd.R_below (rRx9 HO_343003.out) hb)
        replace HO_343004 := Aside0.mk (Kd.R_below (rRx9 HO_343004.out) hb)
        replace HO_343005 := Aside0.mk (Kd.R_below (rRx9 HO_343005.out) hb)
        replace HO362 := Aside0.mk (Kd.R_below (rRx9 HO362.out) hb)
        replace HO365 := Aside0.mk (Kd.R_below (rRx9 HO365.out) hb)
        replace HO368 := Aside0.mk (Kd.R_below (rRx9 HO368.out) hb)
        replace BK261 := Aside0.mk (blk_below (rBx9 BK261.out) hb)
        replace BK262 := Aside0.mk (blk_below (rBx9 BK262.out) hb)
        replace BK302 := Aside0.mk (blk_below (rBx9 BK302.out) hb)
        replace BK315 := Aside0.mk (blk_below (rBx9 BK315.out) hb)
        replace BK328 := Aside0.mk (blk_below (rBx9 BK328.out) hb)
        replace BK342 := Aside0.mk (blk_below (rBx9 BK342.out) hb)
        replace HB := Aside0.mk (below_step (be6x9 HB.out GE261.out GE262.out GE302.out GE315.out GE328.out GE342.out) hb)
        (try clear hb)
        (try clear hb2)
        (try clear hk)
        (try clear hi)
        refine hK.out _ _ (ca6x9 BK328.out (cc6x9 BK262.out)) (fun hHeld => ?_)
        clear hK K
        refine norm_ (a' := ?_) ?_ ?_
        rotate_left
        ·show Act.put _ (some 66) _ = _
         simp only [Act.put, List.setIfInBounds_toArray, List.set_cons_zero, List.set_cons_succ, i64_w, i32_w]
         rfl
        refine pure_ (i := 4) (N := some 67) (v := ?_) (a' := ?_) #[true, true, true, true, true] rfl rfl (by kernel_rfl) (fun _ _ _ h => h) (Or.inl ⟨by rfl, ?_⟩) ?_ ?_
        rotate_left
        ·intro w'
         go_simp
         with_reducible rfl
        rotate_left
        ·simp only [Act.put, List.setIfInBounds_toArray, List.set_cons_zero, List.set_cons_succ, i64_w, i32_w]
         rfl
        refine done_ (by kernel_rfl) ?_
        go_upto_if 67 with (fail)
        go_cut [] (fun wc => ∃ (kq : Nat), Aside0 (laws_FnExactMixModels.j2 kq a2 t301 t341 a0_0 a0_1 a0_2 l0_3 l0_4 l0_5 a1_0 a1_1 a1_2 l1_3 l1_4 l1_5 t289 t290 t291 t292 t295 t298 t303 t304 t305 t306 t309 t312 t316 t317 t318 t319 t322 t325 t329 t330 t331 t332 t335 t338 = some r) ∧ Aside0 (kq ≤ kj118) ∧ Aside0 (Kd.R (Kd.int .i64) 3 wc w.heap.size (fun k_ => some k_ ≠ ((.slice Ao51 t295.length co51) : Value).ownBlock ∧ some k_ ≠ ((.slice Ao53 t298.length co53) : Value).ownBlock ∧ some k_ ≠ ((.slice Ao63 t306.length co63) : Value).ownBlock ∧ some k_ ≠ ((.slice Ao64 t309.length co64) : Value).ownBlock ∧ some k_ ≠ ((.slice Ao65 t312.length co65) : Value).ownBlock ∧ some k_ ≠ ((.slice Ao75 t319.length co75) : Value).ownBlock ∧ some k_ ≠ ((.slice Ao76 t322.length co76) : Value).ownBlock ∧ some k_ ≠ ((.slice Ao77 t325.length co77) : Value).ownBlock ∧ some k_ ≠ ((.slice Ao87 t332.length co87) : Value).ownBlock ∧ some k_ ≠ ((.slice Ao88 t335.length co88) : Value).ownBlock ∧ some k_ ≠ ((.slice Ao89 t338.length co89) : Value).ownBlock) (.slice Ao49 t292.length co49) t292) ∧ Aside0 (Kd.R (Kd.int .i64) 3 wc w.heap.size (fun k_ => some k_ ≠ ((.slice Ao49 t292.length co49) : Value).ownBlock ∧ some k_ ≠ ((.slice Ao53 t298.length co53) : Value).ownBlock ∧ some k_ ≠ ((.slice Ao63 t306.length co63) : Value).ownBlock ∧ some k_ ≠ ((.slice Ao64 t309.length co64) : Value).ownBlock ∧ some k_ ≠ ((.slice Ao65 t312.length co65) : Value).ownBlock ∧ some k_ ≠ ((.slice Ao75 t319.length co75) : Value).ownBlock ∧ some k_ ≠ ((.slice Ao76 t322.length co76) : Value).ownBlock ∧ some k_ ≠ ((.slice Ao77 t325.length co77) : Value).ownBlock ∧ some k_ ≠ ((.slice Ao87 t332.length co87) : Value).ownBlock ∧ some k_ ≠ ((.slice Ao88 t335.length co88) : Value).ownBlock ∧ some k_ ≠ ((.slice Ao89 t338.length co89) : Value).ownBlock) (.slice Ao51 t295.length co51) t295) ∧ Aside0 (Kd.R (Kd.int .i64) 3 wc w.heap.size (fun k_ => some k_ ≠ ((.slice Ao49 t292.length co49) : Value).ownBlock ∧ some k_ ≠ ((.slice Ao51 t295.length co51) : Value).ownBlock ∧ some k_ ≠ ((.slice Ao63 t306.length co63) : Value).ownBlock ∧ some k_ ≠ ((.slice Ao64 t309.length co64) : Value).ownBlock ∧ some k_ ≠ ((.slice Ao65 t312.length co65) : Value).ownBlock ∧ some k_ ≠ ((.slice Ao75 t319.length co75) : Value).ownBlock ∧ some k_ ≠ ((.slice Ao76 t322.length co76) : Value).ownBlock ∧ some k_ ≠ ((.slice Ao77 t325.length co77) : Value).ownBlock ∧ some k_ ≠ ((.slice Ao87 t332.length co87) : Value).ownBlock ∧ some k_ ≠ ((.slice Ao88 t335.length co88) : Value).ownBlock ∧ some k_ ≠ ((.slice Ao89 t338.length co89) : Value).ownBlock) (.slice Ao53 t298.length co53) t298) ∧ Aside0 (Kd.R (Kd.int .i64) 3 wc w.heap.size (fun k_ => some k_ ≠ ((.slice Ao49 t292.length co49) : Value).ownBlock ∧ some k_ ≠ ((.slice Ao51 t295.length co51) : Value).ownBlock ∧ some k_ ≠ ((.slice Ao53 t298.length co53) : Value).ownBlock ∧ some k_ ≠ ((.slice Ao64 t309.length co64) : Value).ownBlock ∧ some k_ ≠ ((.slice Ao65 t312.length co65) : Value).ownBlock ∧ some k_ ≠ ((.slice Ao75 t319.length co75) : Value).ownBlock ∧ some k_ ≠ ((.slice Ao76 t322.length co76) : Value).ownBlock ∧ some k_ ≠ ((.slice Ao77 t325.length co77) : Value).ownBlock ∧ some k_ ≠ ((.slice Ao87 t332.length co87) : Value).ownBlock ∧ some k_ ≠ ((.slice Ao88 t335.length co88) : Value).ownBlock ∧ some k_ ≠ ((.slice Ao89 t338.length co89) : Value).ownBlock) (.slice Ao63 t306.length co63) t306) ∧ Aside0 (Kd.R (Kd.int .i64) 3 wc w.heap.size (fun k_ => some k_ ≠ ((.slice Ao49 t292.length co49) : Value).ownBlock ∧ some k_ ≠ ((.slice Ao51 t295.length co51) : Value).ownBlock ∧ some k_ ≠ ((.slice Ao53 t298.length co53) : Value).ownBlock ∧ some k_ ≠ ((.slice Ao63 t306.length co63) : Value).ownBlock ∧ some k_ ≠ ((.slice Ao65 t312.length co65) : Value).ownBlock ∧ some k_ ≠ ((.slice Ao75 t319.length co75) : Value).ownBlock ∧ some k_ ≠ ((.slice Ao76 t322.length co76) : Value).ownBlock ∧ some k_ ≠ ((.slice Ao77 t325.length co77) : Value).ownBlock ∧ some k_ ≠ ((.slice Ao87 t332.length co87) : Value).ownBlock ∧ some k_ ≠ ((.slice Ao88 t335.length co88) : Value).ownBlock ∧ some k_ ≠ ((.slice Ao89 t338.length co89) : Value).ownBlock) (.slice Ao64 t309.length co64) t309) ∧ Aside0 (Kd.R (Kd.int .i64) 3 wc w.heap.size (fun k_ => some k_ ≠ ((.slice Ao49 t292.length co49) : Value).ownBlock ∧ some k_ ≠ ((.slice Ao51 t295.length co51) : Value).ownBlock ∧ some k_ ≠ ((.slice Ao53 t298.length co53) : Value).ownBlock ∧ some k_ ≠ ((.slice Ao63 t306.length co63) : Value).ownBlock ∧ some k_ ≠ ((.slice Ao64 t309.length co64) : Value).ownBlock ∧ some k_ ≠ ((.slice Ao75 t319.length co75) : Value).ownBlock ∧ some k_ ≠ ((.slice Ao76 t322.length co76) : Value).ownBlock ∧ some k_ ≠ ((.slice Ao77 t325.length co77) : Value).ownBlock ∧ some k_ ≠ ((.slice Ao87 t332.length co87) : Value).ownBlock ∧ some k_ ≠ ((.slice Ao88 t335.length co88) : Value).ownBlock ∧ some k_ ≠ ((.slice Ao89 t338.length co89) : Value).ownBlock) (.slice Ao65 t312.length co65) t312) ∧ Aside0 (Kd.R (Kd.int .i64) 3 wc w.heap.size (fun k_ => some k_ ≠ ((.slice Ao49 t292.length co49) : Value).ownBlock ∧ some k_ ≠ ((.slice Ao51 t295.length co51) : Value).ownBlock ∧ some k_ ≠ ((.slice Ao53 t298.length co53) : Value).ownBlock ∧ some k_ ≠ ((.slice Ao63 t306.length co63) : Value).ownBlock ∧ some k_ ≠ ((.slice Ao64 t309.length co64) : Value).ownBlock ∧ some k_ ≠ ((.slice Ao65 t312.length co65) : Value).ownBlock ∧ some k_ ≠ ((.slice Ao76 t322.length co76) : Value).ownBlock ∧ some k_ ≠ ((.slice Ao77 t325.length co77) : Value).ownBlock ∧ some k_ ≠ ((.slice Ao87 t332.length co87) : Value).ownBlock ∧ some k_ ≠ ((.slice Ao88 t335.length co88) : Value).ownBlock ∧ some k_ ≠ ((.slice Ao89 t338.length co89) : Value).ownBlock) (.slice Ao75 t319.length co75) t319) ∧ Aside0 (Kd.R (Kd.int .i64) 3 wc w.heap.size (fun k_ => some k_ ≠ ((.slice Ao49 t292.length co49) : Value).ownBlock ∧ some k_ ≠ ((.slice Ao51 t295.length co51) : Value).ownBlock ∧ some k_ ≠ ((.slice Ao53 t298.length co53) : Value).ownBlock ∧ some k_ ≠ ((.slice Ao63 t306.length co63) : Value).ownBlock ∧ some k_ ≠ ((.slice Ao64 t309.length co64) : Value).ownBlock ∧ some k_ ≠ ((.slice Ao65 t312.length co65) : Value).ownBlock ∧ some k_ ≠ ((.slice Ao75 t319.length co75) : Value).ownBlock ∧ some k_ ≠ ((.slice Ao77 t325.length co77) : Value).ownBlock ∧ some k_ ≠ ((.slice Ao87 t332.length co87) : Value).ownBlock ∧ some k_ ≠ ((.slice Ao88 t335.length co88) : Value).ownBlock ∧ some k_ ≠ ((.slice Ao89 t338.length co89) : Value).ownBlock) (.slice Ao76 t322.length co76) t322) ∧ Aside0 (Kd.R (Kd.int .i64) 3 wc w.heap.size (fun k_ => some k_ ≠ ((.slice Ao49 t292.length co49) : Value).ownBlock ∧ some k_ ≠ ((.slice Ao51 t295.length co51) : Value).ownBlock ∧ some k_ ≠ ((.slice Ao53 t298.length co53) : Value).ownBlock ∧ some k_ ≠ ((.slice Ao63 t306.length co63) : Value).ownBlock ∧ some k_ ≠ ((.slice Ao64 t309.length co64) : Value).ownBlock ∧ some k_ ≠ ((.slice Ao65 t312.length co65) : Value).ownBlock ∧ some k_ ≠ ((.slice Ao75 t319.length co75) : Value).ownBlock ∧ some k_ ≠ ((.slice Ao76 t322.length co76) : Value).ownBlock ∧ some k_ ≠ ((.slice Ao87 t332.length co87) : Value).ownBlock ∧ some k_ ≠ ((.slice Ao88 t335.length co88) : Value).ownBlock ∧ some k_ ≠ ((.slice Ao89 t338.length co89) : Value).ownBlock) (.slice Ao77 t325.length co77) t325) ∧ Aside0 (Kd.R (Kd.int .i64) 3 wc w.heap.size (fun k_ => some k_ ≠ ((.slice Ao49 t292.length co49) : Value).ownBlock ∧ some k_ ≠ ((.slice Ao51 t295.length co51) : Value).ownBlock ∧ some k_ ≠ ((.slice Ao53 t298.length co53) : Value).ownBlock ∧ some k_ ≠ ((.slice Ao63 t306.length co63) : Value).ownBlock ∧ some k_ ≠ ((.slice Ao64 t309.length co64) : Value).ownBlock ∧ some k_ ≠ ((.slice Ao65 t312.length co65) : Value).ownBlock ∧ some k_ ≠ ((.slice Ao75 t319.length co75) : Value).ownBlock ∧ some k_ ≠ ((.slice Ao76 t322.length co76) : Value).ownBlock ∧ some k_ ≠ ((.slice Ao77 t325.length co77) : Value).ownBlock ∧ some k_ ≠ ((.slice Ao88 t335.length co88) : Value).ownBlock ∧ some k_ ≠ ((.slice Ao89 t338.length co89) : Value).ownBlock) (.slice Ao87 t332.length co87) t332) ∧ Aside0 (Kd.R (Kd.int .i64) 3 wc w.heap.size (fun k_ => some k_ ≠ ((.slice Ao49 t292.length co49) : Value).ownBlock ∧ some k_ ≠ ((.slice Ao51 t295.length co51) : Value).ownBlock ∧ some k_ ≠ ((.slice Ao53 t298.length co53) : Value).ownBlock ∧ some k_ ≠ ((.slice Ao63 t306.length co63) : Value).ownBlock ∧ some k_ ≠ ((.slice Ao64 t309.length co64) : Value).ownBlock ∧ some k_ ≠ ((.slice Ao65 t312.length co65) : Value).ownBlock ∧ some k_ ≠ ((.slice Ao75 t319.length co75) : Value).ownBlock ∧ some k_ ≠ ((.slice Ao76 t322.length co76) : Value).ownBlock ∧ some k_ ≠ ((.slice Ao77 t325.length co77) : Value).ownBlock ∧ some k_ ≠ ((.slice Ao87 t332.length co87) : Value).ownBlock ∧ some k_ ≠ ((.slice Ao89 t338.length co89) : Value).ownBlock) (.slice Ao88 t335.length co88) t335) ∧ Aside0 (Kd.R (Kd.int .i64) 3 wc w.heap.size (fun k_ => some k_ ≠ ((.slice Ao49 t292.length co49) : Value).ownBlock ∧ some k_ ≠ ((.slice Ao51 t295.length co51) : Value).ownBlock ∧ some k_ ≠ ((.slice Ao53 t298.length co53) : Value).ownBlock ∧ some k_ ≠ ((.slice Ao63 t306.length co63) : Value).ownBlock ∧ some k_ ≠ ((.slice Ao64 t309.length co64) : Value).ownBlock ∧ some k_ ≠ ((.slice Ao65 t312.length co65) : Value).ownBlock ∧ some k_ ≠ ((.slice Ao75 t319.length co75) : Value).ownBlock ∧ some k_ ≠ ((.slice Ao76 t322.length co76) : Value).ownBlock ∧ some k_ ≠ ((.slice Ao77 t325.length co77) : Value).ownBlock ∧ some k_ ≠ ((.slice Ao87 t332.length co87) : Value).ownBlock ∧ some k_ ≠ ((.slice Ao88 t335.length co88) : Value).ownBlock) (.slice Ao89 t338.length co89) t338) ∧ Aside0 (wc.heap[gb261]? = some (.cells #[.int .i64 a0_0, .int .i64 a0_1, .int .i64 a0_2, (.slice A0_3 l0_3.length c0_3), (.slice A0_4 l0_4.length c0_4), (.slice A0_5 l0_5.length c0_5)] 26 (0, 0))) ∧ Aside0 (wc.heap[gb262]? = some (.cells #[.int .i64 a1_0, .int .i64 a1_1, .int .i64 a1_2, (.slice A1_3 l1_3.length c1_3), (.slice A1_4 l1_4.length c1_4), (.slice A1_5 l1_5.length c1_5)] 26 (0, 0))) ∧ Aside0 (wc.heap[gb302]? = some (.cells #[.int .i64 t289, .int .i64 t290, .int .i64 t291, (.slice Ao49 t292.length co49), (.slice Ao51 t295.length co51), (.slice Ao53 t298.length co53)] 41 (0, 0))) ∧ Aside0 (wc.heap[gb315]? = some (.cells #[.int .i64 t303, .int .i64 t304, .int .i64 t305, (.slice Ao63 t306.length co63), (.slice Ao64 t309.length co64), (.slice Ao65 t312.length co65)] 41 (0, 0))) ∧ Aside0 (wc.heap[gb328]? = some (.cells #[.int .i64 t316, .int .i64 t317, .int .i64 t318, (.slice Ao75 t319.length co75), (.slice Ao76 t322.length co76), (.slice Ao77 t325.length co77)] 41 (0, 0))) ∧ Aside0 (wc.heap[gb342]? = some (.cells #[.int .i64 t329, .int .i64 t330, .int .i64 t331, (.slice Ao87 t332.length co87), (.slice Ao88 t335.length co88), (.slice Ao89 t338.length co89)] 41 (0, 0))) ∧ Aside0 (Below w.heap.size w wc))
        case first =>
         have H := HC129.out
         clear HC129
         by_cases c136 : t369 = true
         ·subst c136
          have H1 : (laws_FnExactMixModels.j2 kj118 a2 t301 t341 a0_0 a0_1 a0_2 l0_3 l0_4 l0_5 a1_0 a1_1 a1_2 l1_3 l1_4 l1_5 t289 t290 t291 t292 t295 t298 t303 t304 t305 t306 t309 t312 t316 t317 t318 t319 t322 t325 t329 t330 t331 t332 t335 t338) = some r := by rw [if_pos rfl] at H; exact H
          clear H
          have H := H1
          clear H1
          have H' := Aside0.mk H
          clear H
          go_wp2
          go_meet
          case rel => exact ⟨_, H', ⟨by have := HJ25.out; have := HJ118.out; first | omega | exact Nat.le_refl _⟩, ⟨by exact rRx9 (mox9 HO_303003.out)⟩, ⟨by exact rRx9 (mox9 HO_303004.out)⟩, ⟨by exact rRx9 (mox9 HO_303005.out)⟩, ⟨by exact rRx9 (mox9 HO_316003.out)⟩, ⟨by exact rRx9 (mox9 HO_316004.out)⟩, ⟨by exact rRx9 (mox9 HO_316005.out)⟩, ⟨by exact rRx9 (mox9 HO_329003.out)⟩, ⟨by exact rRx9 (mox9 HO_329004.out)⟩, ⟨by exact rRx9 (mox9 HO_329005.out)⟩, ⟨by exact rRx9 (mox9 HO_343003.out)⟩, ⟨by exact rRx9 (mox9 HO_343004.out)⟩, ⟨by exact rRx9 (mox9 HO_343005.out)⟩, ⟨rBx9 BK261.out⟩, ⟨rBx9 BK262.out⟩, ⟨rBx9 BK302.out⟩, ⟨rBx9 BK315.out⟩, ⟨rBx9 BK328.out⟩, ⟨rBx9 BK342.out⟩, ⟨be6x9 HB.out GE261.out GE262.out GE302.out GE315.out GE328.out GE342.out⟩⟩
         ·replace c136 := Bool.eq_false_iff.mpr c136
          subst c136
          have H1 : (some false) = some r := by rw [if_neg (show ¬ (false = true) by decide)] at H; exact H
          clear H
          have H := H1
          clear H1
          obtain rfl := Option.some.inj H
          go_wp2
          go_ret
          exact ⟨by first | rfl | (simp [errW_none, errW_some] <;> rfl) | (simp [*, errW_none, errW_some] <;> rfl), be6x9 HB.out GE261.out GE262.out GE302.out GE315.out GE328.out GE342.out⟩
        case rest =>
         clear HC129
         try clear c136
         obtain ⟨kq, HA, HJ128, HO_303003, HO_303004, HO_303005, HO_316003, HO_316004, HO_316005, HO_329003, HO_329004, HO_329005, HO_343003, HO_343004, HO_343005, BK261, BK262, BK302, BK315, BK328, BK342, HB⟩ := hcut
         cases kq with
         | zero => exact absurd HA.out (by simp [laws_FnExactMixModels.j2])
         | succ kj128 =>
          have H := HA.out
          clear HA
          simp only [laws_FnExactMixModels.j2] at H
          replace H := Option.bind_eq_some_iff.mp H
          obtain ⟨⟨t370, t371, t372, t373⟩, A1370, H⟩ := H
          (try dsimp only at H)
          have A137 := Aside0.mk A1370
          clear A1370
          replace H := Option.bind_eq_some_iff.mp H
          obtain ⟨⟨t374, t375, t376, t377⟩, A1380, H⟩ := H
          (try dsimp only at H)
          have A138 := Aside0.mk A1380
          clear A1380
          have HC139 := Aside0.mk H
          clear H
          have hnb140 := NB315_261.out
          have hnc140 := NB261_315.out
          have hnb141 := NB315_262.out
          have hnc141 := NB262_315.out
          have hnb142 := NB315_302.out
          have hnc142 := NB302_315.out
          have hnb143 := NB315_328.out
          have hnc143 := NB328_315.out
          have hnb144 := NB315_342.out
          have hnc144 := NB342_315.out
          obtain ⟨hcz145_0, hcz145_1, hcz145_2, hcz145_3, hcz145_4, hcz145_5, hfz145_0, hfz145_1, hfz145_2, hfz145_3, hfz145_4, hfz145_5⟩ := cf6x9 BK315.out
          go_upto_region 21 with (first | ((with_reducible refine gate_callee (f := 27) rfl ?_); refine goesL_ (some 70) rfl rfl Try.func27 (by kernel_rfl) rfl #[.agg #[.int .i64 t303, .int .i64 t304, .int .i64 t305, .slice Ao63 t306.length co63, .slice Ao64 t309.length co64, .slice Ao65 t312.length co65], .int .i64 1] rfl mpx9 ?_; (with_reducible refine (laws_markModel.calls kj128 t303 t304 t305 (fun k_ => some k_ = (.slice Ao63 t306.length co63 : Value).ownBlock) (.slice Ao63 t306.length co63) t306 (fun k_ => some k_ = (.slice Ao64 t309.length co64 : Value).ownBlock) (.slice Ao64 t309.length co64) t309 (fun k_ => some k_ = (.slice Ao65 t312.length co65 : Value).ownBlock) (.slice Ao65 t312.length co65) t312 1 t370 t371 t372 t373 w _ ?side1 ?side2 ?side3 ?side4 ?side5 ?side6 ?side7 ?side8 ?side9 ?side10 A137.out).mono ?_); (case side1 => exact be6x9 HB.out GE261.out GE262.out GE302.out GE315.out GE328.out GE342.out); (case side2 => exact Kd.R_tight rfl HO_316003.out); (case side3 => exact fun k_ e_ => (HO_316003.out.1 k_ e_.symm).2.2.2.1); (case side4 => exact fun k_ e_ => (HO_316003.out.1 k_ e_.symm).2.2.2.2.1); (case side5 => exact Kd.R_tight rfl HO_316004.out); (case side6 => exact fun k_ e_ => (HO_316004.out.1 k_ e_.symm).2.2.2.1); (case side7 => exact fun k_ e_ => (HO_316004.out.1 k_ e_.symm).2.2.2.2.1); (case side8 => exact Kd.R_tight rfl HO_316005.out); (case side9 => exact fun k_ e_ => (HO_316005.out.1 k_ e_.symm).2.2.2.1); (case side10 => exact fun k_ e_ => (HO_316005.out.1 k_ e_.symm).2.2.2.2.1); rintro e w146 ⟨rfl, hy0, hy1, hy2, hb, hkp⟩; refine ⟨_, rfl, ?_⟩; replace HO_303003 := Aside0.mk (Kd.R_mono (ok' := fun k_ => some k_ ≠ (.slice Ao51 t295.length co51 : Value).ownBlock ∧ some k_ ≠ (.slice Ao53 t298.length co53 : Value).ownBlock ∧ some k_ ≠ (.slice Ao63 t306.length co63 : Value).ownBlock ∧ some k_ ≠ (.slice Ao64 t309.length co64 : Value).ownBlock ∧ some k_ ≠ (.slice Ao65 t312.length co65 : Value).ownBlock ∧ some k_ ≠ (.slice Ao75 t319.length co75 : Value).ownBlock ∧ some k_ ≠ (.slice Ao76 t322.length co76 : Value).ownBlock ∧ some k_ ≠ (.slice Ao77 t325.length co77 : Value).ownBlock ∧ some k_ ≠ (.slice Ao87 t332.length co87 : Value).ownBlock ∧ some k_ ≠ (.slice Ao88 t335.length co88 : Value).ownBlock ∧ some k_ ≠ (.slice Ao89 t338.length co89 : Value).ownBlock) (Kd.R_keptB (HO_303003.out) hkp (fun k_ hk_ hs_ => Or.elim hs_ (fun e_ => (hk_.2.2.1) e_) (fun e_ => Or.elim e_ (fun e_ => (hk_.2.2.2.1) e_) (fun e_ => (hk_.2.2.2.2.1) e_)))) (fun k_ hk_ => ⟨hk_.1.1, hk_.1.2.1, hk_.1.2.2.1, hk_.1.2.2.2.1, hk_.1.2.2.2.2.1, hk_.1.2.2.2.2.2.1, hk_.1.2.2.2.2.2.2.1, hk_.1.2.2.2.2.2.2.2.1, hk_.1.2.2.2.2.2.2.2.2.1, hk_.1.2.2.2.2.2.2.2.2.2.1, hk_.1.2.2.2.2.2.2.2.2.2.2⟩)); replace HO_303004 := Aside0.mk (Kd.R_mono (ok' := fun k_ => some k_ ≠ (.slice Ao49 t292.length co49 : Value).ownBlock ∧ some k_ ≠ (.slice Ao53 t298.length co53 : Value).ownBlock ∧ some k_ ≠ (.slice Ao63 t306.length co63 : Value).ownBlock ∧ some k_ ≠ (.slice Ao64 t309.length co64 : Value).ownBlock ∧ some k_ ≠ (.slice Ao65 t312.length co65 : Value).ownBlock ∧ some k_ ≠ (.slice Ao75 t319.length co75 : Value).ownBlock ∧ some k_ ≠ (.slice Ao76 t322.length co76 : Value).ownBlock ∧ some k_ ≠ (.slice Ao77 t325.length co77 : Value).ownBlock ∧ some k_ ≠ (.slice Ao87 t332.length co87 : Value).ownBlock ∧ some k_ ≠ (.slice Ao88 t335.length co88 : Value).ownBlock ∧ some k_ ≠ (.slice Ao89 t338.length co89 : Value).ownBlock) (Kd.R_keptB (HO_303004.out) hkp (fun k_ hk_ hs_ => Or.elim hs_ (fun e_ => (hk_.2.2.1) e_) (fun e_ => Or.elim e_ (fun e_ => (hk_.2.2.2.1) e_) (fun e_ => (hk_.2.2.2.2.1) e_)))) (fun k_ hk_ => ⟨hk_.1.1, hk_.1.2.1, hk_.1.2.2.1, hk_.1.2.2.2.1, hk_.1.2.2.2.2.1, hk_.1.2.2.2.2.2.1, hk_.1.2.2.2.2.2.2.1, hk_.1.2.2.2.2.2.2.2.1, hk_.1.2.2.2.2.2.2.2.2.1, hk_.1.2.2.2.2.2.2.2.2.2.1, hk_.1.2.2.2.2.2.2.2.2.2.2⟩)); replace HO_303005 := Aside0.mk (Kd.R_mono (ok' := fun k_ => some k_ ≠ (.slice Ao49 t292.length co49 : Value).ownBlock ∧ some k_ ≠ (.slice Ao51 t295.length co51 : Value).ownBlock ∧ some k_ ≠ (.slice Ao63 t306.length co63 : Value).ownBlock ∧ some k_ ≠ (.slice Ao64 t309.length co64 : Value).ownBlock ∧ some k_ ≠ (.slice Ao65 t312.length co65 : Value).ownBlock ∧ some k_ ≠ (.slice Ao75 t319.length co75 : Value).ownBlock ∧ some k_ ≠ (.slice Ao76 t322.length co76 : Value).ownBlock ∧ some k_ ≠ (.slice Ao77 t325.length co77 : Value).ownBlock ∧ some k_ ≠ (.slice Ao87 t332.length co87 : Value).ownBlock ∧ some k_ ≠ (.slice Ao88 t335.length co88 : Value).ownBlock ∧ some k_ ≠ (.slice Ao89 t338.length co89 : Value).ownBlock) (Kd.R_keptB (HO_303005.out) hkp (fun k_ hk_ hs_ => Or.elim hs_ (fun e_ => (hk_.2.2.1) e_) (fun e_ => Or.elim e_ (fun e_ => (hk_.2.2.2.1) e_) (fun e_ => (hk_.2.2.2.2.1) e_)))) (fun k_ hk_ => ⟨hk_.1.1, hk_.1.2.1, hk_.1.2.2.1, hk_.1.2.2.2.1, hk_.1.2.2.2.2.1, hk_.1.2.2.2.2.2.1, hk_.1.2.2.2.2.2.2.1, hk_.1.2.2.2.2.2.2.2.1, hk_.1.2.2.2.2.2.2.2.2.1, hk_.1.2.2.2.2.2.2.2.2.2.1, hk_.1.2.2.2.2.2.2.2.2.2.2⟩)); replace HO_329003 := Aside0.mk (Kd.R_mono (ok' := fun k_ => some k_ ≠ (.slice Ao49 t292.length co49 : Value).ownBlock ∧ some k_ ≠ (.slice Ao51 t295.length co51 : Value).ownBlock ∧ some k_ ≠ (.slice Ao53 t298.length co53 : Value).ownBlock ∧ some k_ ≠ (.slice Ao63 t306.length co63 : Value).ownBlock ∧ some k_ ≠ (.slice Ao64 t309.length co64 : Value).ownBlock ∧ some k_ ≠ (.slice Ao65 t312.length co65 : Value).ownBlock ∧ some k_ ≠ (.slice Ao76 t322.length co76 : Value).ownBlock ∧ some k_ ≠ (.slice Ao77 t325.length co77 : Value).ownBlock ∧ some k_ ≠ (.slice Ao87 t332.length co87 : Value).ownBlock ∧ some k_ ≠ (.slice Ao88 t335.length co88 : Value).ownBlock ∧ some k_ ≠ (.slice Ao89 t338.length co89 : Value).ownBlock) (Kd.R_keptB (HO_329003.out) hkp (fun k_ hk_ hs_ => Or.elim hs_ (fun e_ => (hk_.2.2.2.1) e_) (fun e_ => Or.elim e_ (fun e_ => (hk_.2.2.2.2.1) e_) (fun e_ => (hk_.2.2.2.2.2.1) e_)))) (fun k_ hk_ => ⟨hk_.1.1, hk_.1.2.1, hk_.1.2.2.1, hk_.1.2.2.2.1, hk_.1.2.2.2.2.1, hk_.1.2.2.2.2.2.1, hk_.1.2.2.2.2.2.2.1, hk_.1.2.2.2.2.2.2.2.1, hk_.1.2.2.2.2.2.2.2.2.1, hk_.1.2.2.2.2.2.2.2.2.2.1, hk_.1.2.2.2.2.2.2.2.2.2.2⟩)); replace HO_329004 := Aside0.mk (Kd.R_mono (ok' := fun k_ => some k_ ≠ (.slice Ao49 t292.length co49 : Value).ownBlock ∧ some k_ ≠ (.slice Ao51 t295.length co51 : Value).ownBlock ∧ some k_ ≠ (.slice Ao53 t298.length co53 : Value).ownBlock ∧ some k_ ≠ (.slice Ao63 t306.length co63 : Value).ownBlock ∧ some k_ ≠ (.slice Ao64 t309.length co64 : Value).ownBlock ∧ some k_ ≠ (.slice Ao65 t312.length co65 : Value).ownBlock ∧ some k_ ≠ (.slice Ao75 t319.length co75 : Value).ownBlock ∧ some k_ ≠ (.slice Ao77 t325.length co77 : Value).ownBlock ∧ some k_ ≠ (.slice Ao87 t332.length co87 : Value).ownBlock ∧ some k_ ≠ (.slice Ao88 t335.length co88 : Value).ownBlock ∧ some k_ ≠ (.slice Ao89 t338.length co89 : Value).ownBlock) (Kd.R_keptB (HO_329004.out) hkp (fun k_ hk_ hs_ => Or.elim hs_ (fun e_ => (hk_.2.2.2.1) e_) (fun e_ => Or.elim e_ (fun e_ => (hk_.2.2.2.2.1) e_) (fun e_ => (hk_.2.2.2.2.2.1) e_)))) (fun k_ hk_ => ⟨hk_.1.1, hk_.1.2.1, hk_.1.2.2.1, hk_.1.2.2.2.1, hk_.1.2.2.2.2.1, hk_.1.2.2.2.2.2.1, hk_.1.2.2.2.2.2.2.1, hk_.1.2.2.2.2.2.2.2.1, hk_.1.2.2.2.2.2.2.2.2.1, hk_.1.2.2.2.2.2.2.2.2.2.1, hk_.1.2.2.2.2.2.2.2.2.2.2⟩)); replace HO_329005 := Aside0.mk (Kd.R_mono (ok' := fun k_ => some k_ ≠ (.slice Ao49 t292.length co49 : Value).ownBlock ∧ some k_ ≠ (.slice Ao51 t295.length co51 : Value).ownBlock ∧ some k_ ≠ (.slice Ao53 t298.length co53 : Value).ownBlock ∧ some k_ ≠ (.slice Ao63 t306.length co63 : Value).ownBlock ∧ some k_ ≠ (.slice Ao64 t309.length co64 : Value).ownBlock ∧ some k_ ≠ (.slice Ao65 t312.length co65 : Value).ownBlock ∧ some k_ ≠ (.slice Ao75 t319.length co75 : Value).ownBlock ∧ some k_ ≠ (.slice Ao76 t322.length co76 : Value).ownBlock ∧ some k_ ≠ (.slice Ao87 t332.length co87 : Value).ownBlock ∧ some k_ ≠ (.slice Ao88 t335.length co88 : Value).ownBlock ∧ some k_ ≠ (.slice Ao89 t338.length co89 : Value).ownBlock) (Kd.R_keptB (HO_329005.out) hkp (fun k_ hk_ hs_ => Or.elim hs_ (fun e_ => (hk_.2.2.2.1) e_) (fun e_ => Or.elim e_ (fun e_ => (hk_.2.2.2.2.1) e_) (fun e_ => (hk_.2.2.2.2.2.1) e_)))) (fun k_ hk_ => ⟨hk_.1.1, hk_.1.2.1, hk_.1.2.2.1, hk_.1.2.2.2.1, hk_.1.2.2.2.2.1, hk_.1.2.2.2.2.2.1, hk_.1.2.2.2.2.2.2.1, hk_.1.2.2.2.2.2.2.2.1, hk_.1.2.2.2.2.2.2.2.2.1, hk_.1.2.2.2.2.2.2.2.2.2.1, hk_.1.2.2.2.2.2.2.2.2.2.2⟩)); replace HO_343003 := Aside0.mk (Kd.R_mono (ok' := fun k_ => some k_ ≠ (.slice Ao49 t292.length co49 : Value).ownBlock ∧ some k_ ≠ (.slice Ao51 t295.length co51 : Value).ownBlock ∧ some k_ ≠ (.slice Ao53 t298.length co53 : Value).ownBlock ∧ some k_ ≠ (.slice Ao63 t306.length co63 : Value).ownBlock ∧ some k_ ≠ (.slice Ao64 t309.length co64 : Value).ownBlock ∧ some k_ ≠ (.slice Ao65 t312.length co65 : Value).ownBlock ∧ some k_ ≠ (.slice Ao75 t319.length co75 : Value).ownBlock ∧ some k_ ≠ (.slice Ao76 t322.length co76 : Value).ownBlock ∧ some k_ ≠ (.slice Ao77 t325.length co77 : Value).ownBlock ∧ some k_ ≠ (.slice Ao88 t335.length co88 : Value).ownBlock ∧ some k_ ≠ (.slice Ao89 t338.length co89 : Value).ownBlock) (Kd.R_keptB (HO_343003.out) hkp (fun k_ hk_ hs_ => Or.elim hs_ (fun e_ => (hk_.2.2.2.1) e_) (fun e_ => Or.elim e_ (fun e_ => (hk_.2.2.2.2.1) e_) (fun e_ => (hk_.2.2.2.2.2.1) e_)))) (fun k_ hk_ => ⟨hk_.1.1, hk_.1.2.1, hk_.1.2.2.1, hk_.1.2.2.2.1, hk_.1.2.2.2.2.1, hk_.1.2.2.2.2.2.1, hk_.1.2.2.2.2.2.2.1, hk_.1.2.2.2.2.2.2.2.1, hk_.1.2.2.2.2.2.2.2.2.1, hk_.1.2.2.2.2.2.2.2.2.2.1, hk_.1.2.2.2.2.2.2.2.2.2.2⟩)); replace HO_343004 := Aside0.mk (Kd.R_mono (ok' := fun k_ => some k_ ≠ (.slice Ao49 t292.length co49 : Value).ownBlock ∧ some k_ ≠ (.slice Ao51 t295.length co51 : Value).ownBlock ∧ some k_ ≠ (.slice Ao53 t298.length co53 : Value).ownBlock ∧ some k_ ≠ (.slice Ao63 t306.length co63 : Value).ownBlock ∧ some k_ ≠ (.slice Ao64 t309.length co64 : Value).ownBlock ∧ some k_ ≠ (.slice Ao65 t312.length co65 : Value).ownBlock ∧ some k_ ≠ (.slice Ao75 t319.length co75 : Value).ownBlock ∧ some k_ ≠ (.slice Ao76 t322.length co76 : Value).ownBlock ∧ some k_ ≠ (.slice Ao77 t325.length co77 : Value).ownBlock ∧ some k_ ≠ (.slice Ao87 t332.length co87 : Value).ownBlock ∧ some k_ ≠ (.slice Ao89 t338.length co89 : Value).ownBlock) (Kd.R_keptB (HO_343004.out) hkp (fun k_ hk_ hs_ => Or.elim hs_ (fun e_ => (hk_.2.2.2.1) e_) (fun e_ => Or.elim e_ (fun e_ => (hk_.2.2.2.2.1) e_) (fun e_ => (hk_.2.2.2.2.2.1) e_)))) (fun k_ hk_ => ⟨hk_.1.1, hk_.1.2.1, hk_.1.2.2.1, hk_.1.2.2.2.1, hk_.1.2.2.2.2.1, hk_.1.2.2.2.2.2.1, hk_.1.2.2.2.2.2.2.1, hk_.1.2.2.2.2.2.2.2.1, hk_.1.2.2.2.2.2.2.2.2.1, hk_.1.2.2.2.2.2.2.2.2.2.1, hk_.1.2.2.2.2.2.2.2.2.2.2⟩)); replace HO_343005 := Aside0.mk (Kd.R_mono (ok' := fun k_ => some k_ ≠ (.slice Ao49 t292.length co49 : Value).ownBlock ∧ some k_ ≠ (.slice Ao51 t295.length co51 : Value).ownBlock ∧ some k_ ≠ (.slice Ao53 t298.length co53 : Value).ownBlock ∧ some k_ ≠ (.slice Ao63 t306.length co63 : Value).ownBlock ∧ some k_ ≠ (.slice Ao64 t309.length co64 : Value).ownBlock ∧ some k_ ≠ (.slice Ao65 t312.length co65 : Value).ownBlock ∧ some k_ ≠ (.slice Ao75 t319.length co75 : Value).ownBlock ∧ some k_ ≠ (.slice Ao76 t322.length co76 : Value).ownBlock ∧ some k_ ≠ (.slice Ao77 t325.length co77 : Value).ownBlock ∧ some k_ ≠ (.slice Ao87 t332.length co87 : Value).ownBlock ∧ some k_ ≠ (.slice Ao88 t335.length co88 : Value).ownBlock) (Kd.R_keptB (HO_343005.out) hkp (fun k_ hk_ hs_ => Or.elim hs_ (fun e_ => (hk_.2.2.2.1) e_) (fun e_ => Or.elim e_ (fun e_ => (hk_.2.2.2.2.1) e_) (fun e_ => (hk_.2.2.2.2.2.1) e_)))) (fun k_ hk_ => ⟨hk_.1.1, hk_.1.2.1, hk_.1.2.2.1, hk_.1.2.2.2.1, hk_.1.2.2.2.2.1, hk_.1.2.2.2.2.2.1, hk_.1.2.2.2.2.2.2.1, hk_.1.2.2.2.2.2.2.2.1, hk_.1.2.2.2.2.2.2.2.2.1, hk_.1.2.2.2.2.2.2.2.2.2.1, hk_.1.2.2.2.2.2.2.2.2.2.2⟩)); replace BK261 := Aside0.mk (blk_kept (rBx9 BK261.out) hkp (fun hs_ => Or.elim hs_ (fun e_ => (fun e_ => (Kd.R_ne HO_316003.out BK261.out (by decide)) e_) e_) (fun e_ => Or.elim e_ (fun e_ => (fun e_ => (Kd.R_ne HO_316004.out BK261.out (by decide)) e_) e_) (fun e_ => (fun e_ => (Kd.R_ne HO_316005.out BK261.out (by decide)) e_) e_)))); replace BK262 := Aside0.mk (blk_kept (rBx9 BK262.out) hkp (fun hs_ => Or.elim hs_ (fun e_ => (fun e_ => (Kd.R_ne HO_316003.out BK262.out (by decide)) e_) e_) (fun e_ => Or.elim e_ (fun e_ => (fun e_ => (Kd.R_ne HO_316004.out BK262.out (by decide)) e_) e_) (fun e_ => (fun e_ => (Kd.R_ne HO_316005.out BK262.out (by decide)) e_) e_)))); replace BK302 := Aside0.mk (blk_kept (rBx9 BK302.out) hkp (fun hs_ => Or.elim hs_ (fun e_ => (fun e_ => (Kd.R_ne HO_316003.out BK302.out (by decide)) e_) e_) (fun e_ => Or.elim e_ (fun e_ => (fun e_ => (Kd.R_ne HO_316004.out BK302.out (by decide)) e_) e_) (fun e_ => (fun e_ => (Kd.R_ne HO_316005.out BK302.out (by decide)) e_) e_)))); replace BK315 := Aside0.mk (blk_kept (rBx9 BK315.out) hkp (fun hs_ => Or.elim hs_ (fun e_ => (fun e_ => (Kd.R_ne HO_316003.out BK315.out (by decide)) e_) e_) (fun e_ => Or.elim e_ (fun e_ => (fun e_ => (Kd.R_ne HO_316004.out BK315.out (by decide)) e_) e_) (fun e_ => (fun e_ => (Kd.R_ne HO_316005.out BK315.out (by decide)) e_) e_)))); replace BK328 := Aside0.mk (blk_kept (rBx9 BK328.out) hkp (fun hs_ => Or.elim hs_ (fun e_ => (fun e_ => (Kd.R_ne HO_316003.out BK328.out (by decide)) e_) e_) (fun e_ => Or.elim e_ (fun e_ => (fun e_ => (Kd.R_ne HO_316004.out BK328.out (by decide)) e_) e_) (fun e_ => (fun e_ => (Kd.R_ne HO_316005.out BK328.out (by decide)) e_) e_)))); replace BK342 := Aside0.mk (blk_kept (rBx9 BK342.out) hkp (fun hs_ => Or.elim hs_ (fun e_ => (fun e_ => (Kd.R_ne HO_316003.out BK342.out (by decide)) e_) e_) (fun e_ => Or.elim e_ (fun e_ => (fun e_ => (Kd.R_ne HO_316004.out BK342.out (by decide)) e_) e_) (fun e_ => (fun e_ => (Kd.R_ne HO_316005.out BK342.out (by decide)) e_) e_)))); replace HO_316003 := Aside0.mk (Kd.R_reok rfl hy0 (fun k_ e_ => HO_316003.out.1 k_ e_)); replace HO_316004 := Aside0.mk (Kd.R_reok rfl hy1 (fun k_ e_ => HO_316004.out.1 k_ e_)); replace HO_316005 := Aside0.mk (Kd.R_reok rfl hy2 (fun k_ e_ => HO_316005.out.1 k_ e_)); replace HB := Aside0.mk (hb); (try clear hb); (try clear hkp); (try clear hy0); (try clear hy1); (try clear hy2); have hnb147 := NB328_261.out; have hnc147 := NB261_328.out; have hnb148 := NB328_262.out; have hnc148 := NB262_328.out; have hnb149 := NB328_302.out; have hnc149 := NB302_328.out; have hnb150 := NB328_342.out; have hnc150 := NB342_328.out; obtain ⟨hcz151_0, hcz151_1, hcz151_2, hcz151_3, hcz151_4, hcz151_5, hfz151_0, hfz151_1, hfz151_2, hfz151_3, hfz151_4, hfz151_5⟩ := cf6x9 BK328.out) | ((with_reducible refine gate_callee (f := 27) rfl ?_); refine goesL_ (some 73) rfl rfl Try.func27 (by kernel_rfl) rfl #[.agg #[.int .i64 t316, .int .i64 t317, .int .i64 t318, .slice Ao75 t319.length co75, .slice Ao76 t322.length co76, .slice Ao77 t325.length co77], .int .i64 t370] rfl mpx9 ?_; (with_reducible refine (laws_markModel.calls kj128 t316 t317 t318 (fun k_ => some k_ = (.slice Ao75 t319.length co75 : Value).ownBlock) (.slice Ao75 t319.length co75) t319 (fun k_ => some k_ = (.slice Ao76 t322.length co76 : Value).ownBlock) (.slice Ao76 t322.length co76) t322 (fun k_ => some k_ = (.slice Ao77 t325.length co77 : Value).ownBlock) (.slice Ao77 t325.length co77) t325 t370 t374 t375 t376 t377 w _ ?side1 ?side2 ?side3 ?side4 ?side5 ?side6 ?side7 ?side8 ?side9 ?side10 A138.out).mono ?_); (case side1 => exact be6x9 HB.out GE261.out GE262.out GE302.out GE315.out GE328.out GE342.out); (case side2 => exact Kd.R_tight rfl HO_329003.out); (case side3 => exact fun k_ e_ => (HO_329003.out.1 k_ e_.symm).2.2.2.2.2.2.1); (case side4 => exact fun k_ e_ => (HO_329003.out.1 k_ e_.symm).2.2.2.2.2.2.2.1); (case side5 => exact Kd.R_tight rfl HO_329004.out); (case side6 => exact fun k_ e_ => (HO_329004.out.1 k_ e_.symm).2.2.2.2.2.2.1); (case side7 => exact fun k_ e_ => (HO_329004.out.1 k_ e_.symm).2.2.2.2.2.2.2.1); (case side8 => exact Kd.R_tight rfl HO_329005.out); (case side9 => exact fun k_ e_ => (HO_329005.out.1 k_ e_.symm).2.2.2.2.2.2.1); (case side10 => exact fun k_ e_ => (HO_329005.out.1 k_ e_.symm).2.2.2.2.2.2.2.1); rintro e w152 ⟨rfl, hy0, hy1, hy2, hb, hkp⟩; refine ⟨_, rfl, ?_⟩; replace HO_303003 := Aside0.mk (Kd.R_mono (ok' := fun k_ => some k_ ≠ (.slice Ao51 t295.length co51 : Value).ownBlock ∧ some k_ ≠ (.slice Ao53 t298.length co53 : Value).ownBlock ∧ some k_ ≠ (.slice Ao63 t306.length co63 : Value).ownBlock ∧ some k_ ≠ (.slice Ao64 t309.length co64 : Value).ownBlock ∧ some k_ ≠ (.slice Ao65 t312.length co65 : Value).ownBlock ∧ some k_ ≠ (.slice Ao75 t319.length co75 : Value).ownBlock ∧ some k_ ≠ (.slice Ao76 t322.length co76 : Value).ownBlock ∧ some k_ ≠ (.slice Ao77 t325.length co77 : Value).ownBlock ∧ some k_ ≠ (.slice Ao87 t332.length co87 : Value).ownBlock ∧ some k_ ≠ (.slice Ao88 t335.length co88 : Value).ownBlock ∧ some k_ ≠ (.slice Ao89 t338.length co89 : Value).ownBlock) (Kd.R_keptB (HO_303003.out) hkp (fun k_ hk_ hs_ => Or.elim hs_ (fun e_ => (hk_.2.2.2.2.2.1) e_) (fun e_ => Or.elim e_ (fun e_ => (hk_.2.2.2.2.2.2.1) e_) (fun e_ => (hk_.2.2.2.2.2.2.2.1) e_)))) (fun k_ hk_ => ⟨hk_.1.1, hk_.1.2.1, hk_.1.2.2.1, hk_.1.2.2.2.1, hk_.1.2.2.2.2.1, hk_.1.2.2.2.2.2.1, hk_.1.2.2.2.2.2.2.1, hk_.1.2.2.2.2.2.2.2.1, hk_.1.2.2.2.2.2.2.2.2.1, hk_.1.2.2.2.2.2.2.2.2.2.1, hk_.1.2.2.2.2.2.2.2.2.2.2⟩)); replace HO_303004 := Aside0.mk (Kd.R_mono (ok' := fun k_ => some k_ ≠ (.slice Ao49 t292.length co49 : Value).ownBlock ∧ some k_ ≠ (.slice Ao53 t298.length co53 : Value).ownBlock ∧ some k_ ≠ (.slice Ao63 t306.length co63 : Value).ownBlock ∧ some k_ ≠ (.slice Ao64 t309.length co64 : Value).ownBlock ∧ some k_ ≠ (.slice Ao65 t312.length co65 : Value).ownBlock ∧ some k_ ≠ (.slice Ao75 t319.length co75 : Value).ownBlock ∧ some k_ ≠ (.slice Ao76 t322.length co76 : Value).ownBlock ∧ some k_ ≠ (.slice Ao77 t325.length co77 : Value).ownBlock ∧ some k_ ≠ (.slice Ao87 t332.length co87 : Value).ownBlock ∧ some k_ ≠ (.slice Ao88 t335.length co88 : Value).ownBlock ∧ some k_ ≠ (.slice Ao89 t338.length co89 : Value).ownBlock) (Kd.R_keptB (HO_303004.out) hkp (fun k_ hk_ hs_ => Or.elim hs_ (fun e_ => (hk_.2.2.2.2.2.1) e_) (fun e_ => Or.elim e_ (fun e_ => (hk_.2.2.2.2.2.2.1) e_) (fun e_ => (hk_.2.2.2.2.2.2.2.1) e_)))) (fun k_ hk_ => ⟨hk_.1.1, hk_.1.2.1, hk_.1.2.2.1, hk_.1.2.2.2.1, hk_.1.2.2.2.2.1, hk_.1.2.2.2.2.2.1, hk_.1.2.2.2.2.2.2.1, hk_.1.2.2.2.2.2.2.2.1, hk_.1.2.2.2.2.2.2.2.2.1, hk_.1.2.2.2.2.2.2.2.2.2.1, hk_.1.2.2.2.2.2.2.2.2.2.2⟩)); replace HO_303005 := Aside0.mk (Kd.R_mono (ok' := fun k_ => some k_ ≠ (.slice Ao49 t292.length co49 : Value).ownBlock ∧ some k_ ≠ (.slice Ao51 t295.length co51 : Value).ownBlock ∧ some k_ ≠ (.slice Ao63 t306.length co63 : Value).ownBlock ∧ some k_ ≠ (.slice Ao64 t309.length co64 : Value).ownBlock ∧ some k_ ≠ (.slice Ao65 t312.length co65 : Value).ownBlock ∧ some k_ ≠ (.slice Ao75 t319.length co75 : Value).ownBlock ∧ some k_ ≠ (.slice Ao76 t322.length co76 : Value).ownBlock ∧ some k_ ≠ (.slice Ao77 t325.length co77 : Value).ownBlock ∧ some k_ ≠ (.slice Ao87 t332.length co87 : Value).ownBlock ∧ some k_ ≠ (.slice Ao88 t335.length co88 : Value).ownBlock ∧ some k_ ≠ (.slice Ao89 t338.length co89 : Value).ownBlock) (Kd.R_keptB (HO_303005.out) hkp (fun k_ hk_ hs_ => Or.elim hs_ (fun e_ => (hk_.2.2.2.2.2.1) e_) (fun e_ => Or.elim e_ (fun e_ => (hk_.2.2.2.2.2.2.1) e_) (fun e_ => (hk_.2.2.2.2.2.2.2.1) e_)))) (fun k_ hk_ => ⟨hk_.1.1, hk_.1.2.1, hk_.1.2.2.1, hk_.1.2.2.2.1, hk_.1.2.2.2.2.1, hk_.1.2.2.2.2.2.1, hk_.1.2.2.2.2.2.2.1, hk_.1.2.2.2.2.2.2.2.1, hk_.1.2.2.2.2.2.2.2.2.1, hk_.1.2.2.2.2.2.2.2.2.2.1, hk_.1.2.2.2.2.2.2.2.2.2.2⟩)); replace HO_316003 := Aside0.mk (Kd.R_mono (ok' := fun k_ => some k_ ≠ (.slice Ao49 t292.length co49 : Value).ownBlock ∧ some k_ ≠ (.slice Ao51 t295.length co51 : Value).ownBlock ∧ some k_ ≠ (.slice Ao53 t298.length co53 : Value).ownBlock ∧ some k_ ≠ (.slice Ao64 t309.length co64 : Value).ownBlock ∧ some k_ ≠ (.slice Ao65 t312.length co65 : Value).ownBlock ∧ some k_ ≠ (.slice Ao75 t319.length co75 : Value).ownBlock ∧ some k_ ≠ (.slice Ao76 t322.length co76 : Value).ownBlock ∧ some k_ ≠ (.slice Ao77 t325.length co77 : Value).ownBlock ∧ some k_ ≠ (.slice Ao87 t332.length co87 : Value).ownBlock ∧ some k_ ≠ (.slice Ao88 t335.length co88 : Value).ownBlock ∧ some k_ ≠ (.slice Ao89 t338.length co89 : Value).ownBlock) (Kd.R_keptB (HO_316003.out) hkp (fun k_ hk_ hs_ => Or.elim hs_ (fun e_ => (hk_.2.2.2.2.2.1) e_) (fun e_ => Or.elim e_ (fun e_ => (hk_.2.2.2.2.2.2.1) e_) (fun e_ => (hk_.2.2.2.2.2.2.2.1) e_)))) (fun k_ hk_ => ⟨hk_.1.1, hk_.1.2.1, hk_.1.2.2.1, hk_.1.2.2.2.1, hk_.1.2.2.2.2.1, hk_.1.2.2.2.2.2.1, hk_.1.2.2.2.2.2.2.1, hk_.1.2.2.2.2.2.2.2.1, hk_.1.2.2.2.2.2.2.2.2.1, hk_.1.2.2.2.2.2.2.2.2.2.1, hk_.1.2.2.2.2.2.2.2.2.2.2⟩)); replace HO_316004 := Aside0.mk (Kd.R_mono (ok' := fun k_ => some k_ ≠ (.slice Ao49 t292.length co49 : Value).ownBlock ∧ some k_ ≠ (.slice Ao51 t295.length co51 : Value).ownBlock ∧ some k_ ≠ (.slice Ao53 t298.length co53 : Value).ownBlock ∧ some k_ ≠ (.slice Ao63 t306.length co63 : Value).ownBlock ∧ some k_ ≠ (.slice Ao65 t312.length co65 : Value).ownBlock ∧ some k_ ≠ (.slice Ao75 t319.length co75 : Value).ownBlock ∧ some k_ ≠ (.slice Ao76 t322.length co76 : Value).ownBlock ∧ some k_ ≠ (.slice Ao77 t325.length co77 : Value).ownBlock ∧ some k_ ≠ (.slice Ao87 t332.length co87 : Value).ownBlock ∧ some k_ ≠ (.slice Ao88 t335.length co88 : Value).ownBlock ∧ some k_ ≠ (.slice Ao89 t338.length co89 : Value).ownBlock) (Kd.R_keptB (HO_316004.out) hkp (fun k_ hk_ hs_ => Or.elim hs_ (fun e_ => (hk_.2.2.2.2.2.1) e_) (fun e_ => Or.elim e_ (fun e_ => (hk_.2.2.2.2.2.2.1) e_) (fun e_ => (hk_.2.2.2.2.2.2.2.1) e_)))) (fun k_ hk_ => ⟨hk_.1.1, hk_.1.2.1, hk_.1.2.2.1, hk_.1.2.2.2.1, hk_.1.2.2.2.2.1, hk_.1.2.2.2.2.2.1, hk_.1.2.2.2.2.2.2.1, hk_.1.2.2.2.2.2.2.2.1, hk_.1.2.2.2.2.2.2.2.2.1, hk_.1.2.2.2.2.2.2.2.2.2.1, hk_.1.2.2.2.2.2.2.2.2.2.2⟩)); replace HO_316005 := Aside0.mk (Kd.R_mono (ok' := fun k_ => some k_ ≠ (.slice Ao49 t292.length co49 : Value).ownBlock ∧ some k_ ≠ (.slice Ao51 t295.length co51 : Value).ownBlock ∧ some k_ ≠ (.slice Ao53 t298.length co53 : Value).ownBlock ∧ some k_ ≠ (.slice Ao63 t306.length co63 : Value).ownBlock ∧ some k_ ≠ (.slice Ao64 t309.length co64 : Value).ownBlock ∧ some k_ ≠ (.slice Ao75 t319.length co75 : Value).ownBlock ∧ some k_ ≠ (.slice Ao76 t322.length co76 : Value).ownBlock ∧ some k_ ≠ (.slice Ao77 t325.length co77 : Value).ownBlock ∧ some k_ ≠ (.slice Ao87 t332.length co87 : Value).ownBlock ∧ some k_ ≠ (.slice Ao88 t335.length co88 : Value).ownBlock ∧ some k_ ≠ (.slice Ao89 t338.length co89 : Value).ownBlock) (Kd.R_keptB (HO_316005.out) hkp (fun k_ hk_ hs_ => Or.elim hs_ (fun e_ => (hk_.2.2.2.2.2.1) e_) (fun e_ => Or.elim e_ (fun e_ => (hk_.2.2.2.2.2.2.1) e_) (fun e_ => (hk_.2.2.2.2.2.2.2.1) e_)))) (fun k_ hk_ => ⟨hk_.1.1, hk_.1.2.1, hk_.1.2.2.1, hk_.1.2.2.2.1, hk_.1.2.2.2.2.1, hk_.1.2.2.2.2.2.1, hk_.1.2.2.2.2.2.2.1, hk_.1.2.2.2.2.2.2.2.1, hk_.1.2.2.2.2.2.2.2.2.1, hk_.1.2.2.2.2.2.2.2.2.2.1, hk_.1.2.2.2.2.2.2.2.2.2.2⟩)); replace HO_343003 := Aside0.mk (Kd.R_mono (ok' := fun k_ => some k_ ≠ (.slice Ao49 t292.length co49 : Value).ownBlock ∧ some k_ ≠ (.slice Ao51 t295.length co51 : Value).ownBlock ∧ some k_ ≠ (.slice Ao53 t298.length co53 : Value).ownBlock ∧ some k_ ≠ (.slice Ao63 t306.length co63 : Value).ownBlock ∧ some k_ ≠ (.slice Ao64 t309.length co64 : Value).ownBlock ∧ some k_ ≠ (.slice Ao65 t312.length co65 : Value).ownBlock ∧ some k_ ≠ (.slice Ao75 t319.length co75 : Value).ownBlock ∧ some k_ ≠ (.slice Ao76 t322.length co76 : Value).ownBlock ∧ some k_ ≠ (.slice Ao77 t325.length co77 : Value).ownBlock ∧ some k_ ≠ (.slice Ao88 t335.length co88 : Value).ownBlock ∧ some k_ ≠ (.slice Ao89 t338.length co89 : Value).ownBlock) (Kd.R_keptB (HO_343003.out) hkp (fun k_ hk_ hs_ => Or.elim hs_ (fun e_ => (hk_.2.2.2.2.2.2.1) e_) (fun e_ => Or.elim e_ (fun e_ => (hk_.2.2.2.2.2.2.2.1) e_) (fun e_ => (hk_.2.2.2.2.2.2.2.2.1) e_)))) (fun k_ hk_ => ⟨hk_.1.1, hk_.1.2.1, hk_.1.2.2.1, hk_.1.2.2.2.1, hk_.1.2.2.2.2.1, hk_.1.2.2.2.2.2.1, hk_.1.2.2.2.2.2.2.1, hk_.1.2.2.2.2.2.2.2.1, hk_.1.2.2.2.2.2.2.2.2.1, hk_.1.2.2.2.2.2.2.2.2.2.1, hk_.1.2.2.2.2.2.2.2.2.2.2⟩)); replace HO_343004 := Aside0.mk (Kd.R_mono (ok' := fun k_ => some k_ ≠ (.slice Ao49 t292.length co49 : Value).ownBlock ∧ some k_ ≠ (.slice Ao51 t295.length co51 : Value).ownBlock ∧ some k_ ≠ (.slice Ao53 t298.length co53 : Value).ownBlock ∧ some k_ ≠ (.slice Ao63 t306.length co63 : Value).ownBlock ∧ some k_ ≠ (.slice Ao64 t309.length co64 : Value).ownBlock ∧ some k_ ≠ (.slice Ao65 t312.length co65 : Value).ownBlock ∧ some k_ ≠ (.slice Ao75 t319.length co75 : Value).ownBlock ∧ some k_ ≠ (.slice Ao76 t322.length co76 : Value).ownBlock ∧ some k_ ≠ (.slice Ao77 t325.length co77 : Value).ownBlock ∧ some k_ ≠ (.slice Ao87 t332.length co87 : Value).ownBlock ∧ some k_ ≠ (.slice Ao89 t338.length co89 : Value).ownBlock) (Kd.R_keptB (HO_343004.out) hkp (fun k_ hk_ hs_ => Or.elim hs_ (fun e_ => (hk_.2.2.2.2.2.2.1) e_) (fun e_ => Or.elim e_ (fun e_ => (hk_.2.2.2.2.2.2.2.1) e_) (fun e_ => (hk_.2.2.2.2.2.2.2.2.1) e_)))) (fun k_ hk_ => ⟨hk_.1.1, hk_.1.2.1, hk_.1.2.2.1, hk_.1.2.2.2.1, hk_.1.2.2.2.2.1, hk_.1.2.2.2.2.2.1, hk_.1.2.2.2.2.2.2.1, hk_.1.2.2.2.2.2.2.2.1, hk_.1.2.2.2.2.2.2.2.2.1, hk_.1.2.2.2.2.2.2.2.2.2.1, hk_.1.2.2.2.2.2.2.2.2.2.2⟩)); replace HO_343005 := Aside0.mk (Kd.R_mono (ok' := fun k_ => some k_ ≠ (.slice Ao49 t292.length co49 : Value).ownBlock ∧ some k_ ≠ (.slice Ao51 t295.length co51 : Value).ownBlock ∧ some k_ ≠ (.slice Ao53 t298.length co53 : Value).ownBlock ∧ some k_ ≠ (.slice Ao63 t306.length co63 : Value).ownBlock ∧ some k_ ≠ (.slice Ao64 t309.length co64 : Value).ownBlock ∧ some k_ ≠ (.slice Ao65 t312.length co65 : Value).ownBlock ∧ some k_ ≠ (.slice Ao75 t319.length co75 : Value).ownBlock ∧ some k_ ≠ (.slice Ao76 t322.length co76 : Value).ownBlock ∧ some k_ ≠ (.slice Ao77 t325.length co77 : Value).ownBlock ∧ some k_ ≠ (.slice Ao87 t332.length co87 : Value).ownBlock ∧ some k_ ≠ (.slice Ao88 t335.length co88 : Value).ownBlock) (Kd.R_keptB (HO_343005.out) hkp (fun k_ hk_ hs_ => Or.elim hs_ (fun e_ => (hk_.2.2.2.2.2.2.1) e_) (fun e_ => Or.elim e_ (fun e_ => (hk_.2.2.2.2.2.2.2.1) e_) (fun e_ => (hk_.2.2.2.2.2.2.2.2.1) e_)))) (fun k_ hk_ => ⟨hk_.1.1, hk_.1.2.1, hk_.1.2.2.1, hk_.1.2.2.2.1, hk_.1.2.2.2.2.1, hk_.1.2.2.2.2.2.1, hk_.1.2.2.2.2.2.2.1, hk_.1.2.2.2.2.2.2.2.1, hk_.1.2.2.2.2.2.2.2.2.1, hk_.1.2.2.2.2.2.2.2.2.2.1, hk_.1.2.2.2.2.2.2.2.2.2.2⟩)); replace BK261 := Aside0.mk (blk_kept (rBx9 BK261.out) hkp (fun hs_ => Or.elim hs_ (fun e_ => (fun e_ => (Kd.R_ne HO_329003.out BK261.out (by decide)) e_) e_) (fun e_ => Or.elim e_ (fun e_ => (fun e_ => (Kd.R_ne HO_329004.out BK261.out (by decide)) e_) e_) (fun e_ => (fun e_ => (Kd.R_ne HO_329005.out BK261.out (by decide)) e_) e_)))); replace BK262 := Aside0.mk (blk_kept (rBx9 BK262.out) hkp (fun hs_ => Or.elim hs_ (fun e_ => (fun e_ => (Kd.R_ne HO_329003.out BK262.out (by decide)) e_) e_) (fun e_ => Or.elim e_ (fun e_ => (fun e_ => (Kd.R_ne HO_329004.out BK262.out (by decide)) e_) e_) (fun e_ => (fun e_ => (Kd.R_ne HO_329005.out BK262.out (by decide)) e_) e_)))); replace BK302 := Aside0.mk (blk_kept (rBx9 BK302.out) hkp (fun hs_ => Or.elim hs_ (fun e_ => (fun e_ => (Kd.R_ne HO_329003.out BK302.out (by decide)) e_) e_) (fun e_ => Or.elim e_ (fun e_ => (fun e_ => (Kd.R_ne HO_329004.out BK302.out (by decide)) e_) e_) (fun e_ => (fun e_ => (Kd.R_ne HO_329005.out BK302.out (by decide)) e_) e_)))); replace BK315 := Aside0.mk (blk_kept (rBx9 BK315.out) hkp (fun hs_ => Or.elim hs_ (fun e_ => (fun e_ => (Kd.R_ne HO_329003.out BK315.out (by decide)) e_) e_) (fun e_ => Or.elim e_ (fun e_ => (fun e_ => (Kd.R_ne HO_329004.out BK315.out (by decide)) e_) e_) (fun e_ => (fun e_ => (Kd.R_ne HO_329005.out BK315.out (by decide)) e_) e_)))); replace BK328 := Aside0.mk (blk_kept (rBx9 BK328.out) hkp (fun hs_ => Or.elim hs_ (fun e_ => (fun e_ => (Kd.R_ne HO_329003.out BK328.out (by decide)) e_) e_) (fun e_ => Or.elim e_ (fun e_ => (fun e_ => (Kd.R_ne HO_329004.out BK328.out (by decide)) e_) e_) (fun e_ => (fun e_ => (Kd.R_ne HO_329005.out BK328.out (by decide)) e_) e_)))); replace BK342 := Aside0.mk (blk_kept (rBx9 BK342.out) hkp (fun hs_ => Or.elim hs_ (fun e_ => (fun e_ => (Kd.R_ne HO_329003.out BK342.out (by decide)) e_) e_) (fun e_ => Or.elim e_ (fun e_ => (fun e_ => (Kd.R_ne HO_329004.out BK342.out (by decide)) e_) e_) (fun e_ => (fun e_ => (Kd.R_ne HO_329005.out BK342.out (by decide)) e_) e_)))); replace HO_329003 := Aside0.mk (Kd.R_reok rfl hy0 (fun k_ e_ => HO_329003.out.1 k_ e_)); replace HO_329004 := Aside0.mk (Kd.R_reok rfl hy1 (fun k_ e_ => HO_329004.out.1 k_ e_)); replace HO_329005 := Aside0.mk (Kd.R_reok rfl hy2 (fun k_ e_ => HO_329005.out.1 k_ e_)); replace HB := Aside0.mk (hb); (try clear hb); (try clear hkp); (try clear hy0); (try clear hy1); (try clear hy2)))
          (try simp only [Act.put, List.setIfInBounds_toArray, List.set_cons_zero, List.set_cons_succ])
          go_cut [86] (fun v86 wc => ∃ (kq : Nat) (x86_138 : Bool), v86 = .bool x86_138 ∧ Aside0 (laws_FnExactMixModels.j3 kq a2 t301 x86_138 a0_0 a0_1 a0_2 l0_3 l0_4 l0_5 a1_0 a1_1 a1_2 l1_3 l1_4 l1_5 t289 t290 t291 t292 t295 t298 t329 t330 t331 t332 t335 t338 = some r) ∧ Aside0 (kq ≤ kj128) ∧ Aside0 (Kd.R (Kd.int .i64) 3 wc w.heap.size (fun k_ => some k_ ≠ ((.slice Ao51 t295.length co51) : Value).ownBlock ∧ some k_ ≠ ((.slice Ao53 t298.length co53) : Value).ownBlock ∧ some k_ ≠ ((.slice Ao63 t306.length co63) : Value).ownBlock ∧ some k_ ≠ ((.slice Ao64 t309.length co64) : Value).ownBlock ∧ some k_ ≠ ((.slice Ao65 t312.length co65) : Value).ownBlock ∧ some k_ ≠ ((.slice Ao75 t319.length co75) : Value).ownBlock ∧ some k_ ≠ ((.slice Ao76 t322.length co76) : Value).ownBlock ∧ some k_ ≠ ((.slice Ao77 t325.length co77) : Value).ownBlock ∧ some k_ ≠ ((.slice Ao87 t332.length co87) : Value).ownBlock ∧ some k_ ≠ ((.slice Ao88 t335.length co88) : Value).ownBlock ∧ some k_ ≠ ((.slice Ao89 t338.length co89) : Value).ownBlock) (.slice Ao49 t292.length co49) t292) ∧ Aside0 (Kd.R (Kd.int .i64) 3 wc w.heap.size (fun k_ => some k_ ≠ ((.slice Ao49 t292.length co49) : Value).ownBlock ∧ some k_ ≠ ((.slice Ao53 t298.length co53) : Value).ownBlock ∧ some k_ ≠ ((.slice Ao63 t306.length co63) : Value).ownBlock ∧ some k_ ≠ ((.slice Ao64 t309.length co64) : Value).ownBlock ∧ some k_ ≠ ((.slice Ao65 t312.length co65) : Value).ownBlock ∧ some k_ ≠ ((.slice Ao75 t319.length co75) : Value).ownBlock ∧ some k_ ≠ ((.slice Ao76 t322.length co76) : Value).ownBlock ∧ some k_ ≠ ((.slice Ao77 t325.length co77) : Value).ownBlock ∧ some k_ ≠ ((.slice Ao87 t332.length co87) : Value).ownBlock ∧ some k_ ≠ ((.slice Ao88 t335.length co88) : Value).ownBlock ∧ some k_ ≠ ((.slice Ao89 t338.length co89) : Value).ownBlock) (.slice Ao51 t295.length co51) t295) ∧ Aside0 (Kd.R (Kd.int .i64) 3 wc w.heap.size (fun k_ => some k_ ≠ ((.slice Ao49 t292.length co49) : Value).ownBlock ∧ some k_ ≠ ((.slice Ao51 t295.length co51) : Value).ownBlock ∧ some k_ ≠ ((.slice Ao63 t306.length co63) : Value).ownBlock ∧ some k_ ≠ ((.slice Ao64 t309.length co64) : Value).ownBlock ∧ some k_ ≠ ((.slice Ao65 t312.length co65) : Value).ownBlock ∧ some k_ ≠ ((.slice Ao75 t319.length co75) : Value).ownBlock ∧ some k_ ≠ ((.slice Ao76 t322.length co76) : Value).ownBlock ∧ some k_ ≠ ((.slice Ao77 t325.length co77) : Value).ownBlock ∧ some k_ ≠ ((.slice Ao87 t332.length co87) : Value).ownBlock ∧ some k_ ≠ ((.slice Ao88 t335.length co88) : Value).ownBlock ∧ some k_ ≠ ((.slice Ao89 t338.length co89) : Value).ownBlock) (.slice Ao53 t298.length co53) t298) ∧ Aside0 (Kd.R (Kd.int .i64) 3 wc w.heap.size (fun k_ => some k_ ≠ ((.slice Ao49 t292.length co49) : Value).ownBlock ∧ some k_ ≠ ((.slice Ao51 t295.length co51) : Value).ownBlock ∧ some k_ ≠ ((.slice Ao53 t298.length co53) : Value).ownBlock ∧ some k_ ≠ ((.slice Ao64 t309.length co64) : Value).ownBlock ∧ some k_ ≠ ((.slice Ao65 t312.length co65) : Value).ownBlock ∧ some k_ ≠ ((.slice Ao75 t319.length co75) : Value).ownBlock ∧ some k_ ≠ ((.slice Ao76 t322.length co76) : Value).ownBlock ∧ some k_ ≠ ((.slice Ao77 t325.length co77) : Value).ownBlock ∧ some k_ ≠ ((.slice Ao87 t332.length co87) : Value).ownBlock ∧ some k_ ≠ ((.slice Ao88 t335.length co88) : Value).ownBlock ∧ some k_ ≠ ((.slice Ao89 t338.length co89) : Value).ownBlock) (.slice Ao63 t306.length co63) t371) ∧ Aside0 (Kd.R (Kd.int .i64) 3 wc w.heap.size (fun k_ => some k_ ≠ ((.slice Ao49 t292.length co49) : Value).ownBlock ∧ some k_ ≠ ((.slice Ao51 t295.length co51) : Value).ownBlock ∧ some k_ ≠ ((.slice Ao53 t298.length co53) : Value).ownBlock ∧ some k_ ≠ ((.slice Ao63 t306.length co63) : Value).ownBlock ∧ some k_ ≠ ((.slice Ao65 t312.length co65) : Value).ownBlock ∧ some k_ ≠ ((.slice Ao75 t319.length co75) : Value).ownBlock ∧ some k_ ≠ ((.slice Ao76 t322.length co76) : Value).ownBlock ∧ some k_ ≠ ((.slice Ao77 t325.length co77) : Value).ownBlock ∧ some k_ ≠ ((.slice Ao87 t332.length co87) : Value).ownBlock ∧ some k_ ≠ ((.slice Ao88 t335.length co88) : Value).ownBlock ∧ some k_ ≠ ((.slice Ao89 t338.length co89) : Value).ownBlock) (.slice Ao64 t309.length co64) t372) ∧ Aside0 (Kd.R (Kd.int .i64) 3 wc w.heap.size (fun k_ => some k_ ≠ ((.slice Ao49 t292.length co49) : Value).ownBlock ∧ some k_ ≠ ((.slice Ao51 t295.length co51) : Value).ownBlock ∧ some k_ ≠ ((.slice Ao53 t298.length co53) : Value).ownBlock ∧ some k_ ≠ ((.slice Ao63 t306.length co63) : Value).ownBlock ∧ some k_ ≠ ((.slice Ao64 t309.length co64) : Value).ownBlock ∧ some k_ ≠ ((.slice Ao75 t319.length co75) : Value).ownBlock ∧ some k_ ≠ ((.slice Ao76 t322.length co76) : Value).ownBlock ∧ some k_ ≠ ((.slice Ao77 t325.length co77) : Value).ownBlock ∧ some k_ ≠ ((.slice Ao87 t332.length co87) : Value).ownBlock ∧ some k_ ≠ ((.slice Ao88 t335.length co88) : Value).ownBlock ∧ some k_ ≠ ((.slice Ao89 t338.length co89) : Value).ownBlock) (.slice Ao65 t312.length co65) t373) ∧ Aside0 (Kd.R (Kd.int .i64) 3 wc w.heap.size (fun k_ => some k_ ≠ ((.slice Ao49 t292.length co49) : Value).ownBlock ∧ some k_ ≠ ((.slice Ao51 t295.length co51) : Value).ownBlock ∧ some k_ ≠ ((.slice Ao53 t298.length co53) : Value).ownBlock ∧ some k_ ≠ ((.slice Ao63 t306.length co63) : Value).ownBlock ∧ some k_ ≠ ((.slice Ao64 t309.length co64) : Value).ownBlock ∧ some k_ ≠ ((.slice Ao65 t312.length co65) : Value).ownBlock ∧ some k_ ≠ ((.slice Ao76 t322.length co76) : Value).ownBlock ∧ some k_ ≠ ((.slice Ao77 t325.length co77) : Value).ownBlock ∧ some k_ ≠ ((.slice Ao87 t332.length co87) : Value).ownBlock ∧ some k_ ≠ ((.slice Ao88 t335.length co88) : Value).ownBlock ∧ some k_ ≠ ((.slice Ao89 t338.length co89) : Value).ownBlock) (.slice Ao75 t319.length co75) t375) ∧ Aside0 (Kd.R (Kd.int .i64) 3 wc w.heap.size (fun k_ => some k_ ≠ ((.slice Ao49 t292.length co49) : Value).ownBlock ∧ some k_ ≠ ((.slice Ao51 t295.length co51) : Value).ownBlock ∧ some k_ ≠ ((.slice Ao53 t298.length co53) : Value).ownBlock ∧ some k_ ≠ ((.slice Ao63 t306.length co63) : Value).ownBlock ∧ some k_ ≠ ((.slice Ao64 t309.length co64) : Value).ownBlock ∧ some k_ ≠ ((.slice Ao65 t312.length co65) : Value).ownBlock ∧ some k_ ≠ ((.slice Ao75 t319.length co75) : Value).ownBlock ∧ some k_ ≠ ((.slice Ao77 t325.length co77) : Value).ownBlock ∧ some k_ ≠ ((.slice Ao87 t332.length co87) : Value).ownBlock ∧ some k_ ≠ ((.slice Ao88 t335.length co88) : Value).ownBlock ∧ some k_ ≠ ((.slice Ao89 t338.length co89) : Value).ownBlock) (.slice Ao76 t322.length co76) t376) ∧ Aside0 (Kd.R (Kd.int .i64) 3 wc w.heap.size (fun k_ => some k_ ≠ ((.slice Ao49 t292.length co49) : Value).ownBlock ∧ some k_ ≠ ((.slice Ao51 t295.length co51) : Value).ownBlock ∧ some k_ ≠ ((.slice Ao53 t298.length co53) : Value).ownBlock ∧ some k_ ≠ ((.slice Ao63 t306.length co63) : Value).ownBlock ∧ some k_ ≠ ((.slice Ao64 t309.length co64) : Value).ownBlock ∧ some k_ ≠ ((.slice Ao65 t312.length co65) : Value).ownBlock ∧ some k_ ≠ ((.slice Ao75 t319.length co75) : Value).ownBlock ∧ some k_ ≠ ((.slice Ao76 t322.length co76) : Value).ownBlock ∧ some k_ ≠ ((.slice Ao87 t332.length co87) : Value).ownBlock ∧ some k_ ≠ ((.slice Ao88 t335.length co88) : Value).ownBlock ∧ some k_ ≠ ((.slice Ao89 t338.length co89) : Value).ownBlock) (.slice Ao77 t325.length co77) t377) ∧ Aside0 (Kd.R (Kd.int .i64) 3 wc w.heap.size (fun k_ => some k_ ≠ ((.slice Ao49 t292.length co49) : Value).ownBlock ∧ some k_ ≠ ((.slice Ao51 t295.length co51) : Value).ownBlock ∧ some k_ ≠ ((.slice Ao53 t298.length co53) : Value).ownBlock ∧ some k_ ≠ ((.slice Ao63 t306.length co63) : Value).ownBlock ∧ some k_ ≠ ((.slice Ao64 t309.length co64) : Value).ownBlock ∧ some k_ ≠ ((.slice Ao65 t312.length co65) : Value).ownBlock ∧ some k_ ≠ ((.slice Ao75 t319.length co75) : Value).ownBlock ∧ some k_ ≠ ((.slice Ao76 t322.length co76) : Value).ownBlock ∧ some k_ ≠ ((.slice Ao77 t325.length co77) : Value).ownBlock ∧ some k_ ≠ ((.slice Ao88 t335.length co88) : Value).ownBlock ∧ some k_ ≠ ((.slice Ao89 t338.length co89) : Value).ownBlock) (.slice Ao87 t332.length co87) t332) ∧ Aside0 (Kd.R (Kd.int .i64) 3 wc w.heap.size (fun k_ => some k_ ≠ ((.slice Ao49 t292.length co49) : Value).ownBlock ∧ some k_ ≠ ((.slice Ao51 t295.length co51) : Value).ownBlock ∧ some k_ ≠ ((.slice Ao53 t298.length co53) : Value).ownBlock ∧ some k_ ≠ ((.slice Ao63 t306.length co63) : Value).ownBlock ∧ some k_ ≠ ((.slice Ao64 t309.length co64) : Value).ownBlock ∧ some k_ ≠ ((.slice Ao65 t312.length co65) : Value).ownBlock ∧ some k_ ≠ ((.slice Ao75 t319.length co75) : Value).ownBlock ∧ some k_ ≠ ((.slice Ao76 t322.length co76) : Value).ownBlock ∧ some k_ ≠ ((.slice Ao77 t325.length co77) : Value).ownBlock ∧ some k_ ≠ ((.slice Ao87 t332.length co87) : Value).ownBlock ∧ some k_ ≠ ((.slice Ao89 t338.length co89) : Value).ownBlock) (.slice Ao88 t335.length co88) t335) ∧ Aside0 (Kd.R (Kd.int .i64) 3 wc w.heap.size (fun k_ => some k_ ≠ ((.slice Ao49 t292.length co49) : Value).ownBlock ∧ some k_ ≠ ((.slice Ao51 t295.length co51) : Value).ownBlock ∧ some k_ ≠ ((.slice Ao53 t298.length co53) : Value).ownBlock ∧ some k_ ≠ ((.slice Ao63 t306.length co63) : Value).ownBlock ∧ some k_ ≠ ((.slice Ao64 t309.length co64) : Value).ownBlock ∧ some k_ ≠ ((.slice Ao65 t312.length co65) : Value).ownBlock ∧ some k_ ≠ ((.slice Ao75 t319.length co75) : Value).ownBlock ∧ some k_ ≠ ((.slice Ao76 t322.length co76) : Value).ownBlock ∧ some k_ ≠ ((.slice Ao77 t325.length co77) : Value).ownBlock ∧ some k_ ≠ ((.slice Ao87 t332.length co87) : Value).ownBlock ∧ some k_ ≠ ((.slice Ao88 t335.length co88) : Value).ownBlock) (.slice Ao89 t338.length co89) t338) ∧ Aside0 (wc.heap[gb261]? = some (.cells #[.int .i64 a0_0, .int .i64 a0_1, .int .i64 a0_2, (.slice A0_3 l0_3.length c0_3), (.slice A0_4 l0_4.length c0_4), (.slice A0_5 l0_5.length c0_5)] 26 (0, 0))) ∧ Aside0 (wc.heap[gb262]? = some (.cells #[.int .i64 a1_0, .int .i64 a1_1, .int .i64 a1_2, (.slice A1_3 l1_3.length c1_3), (.slice A1_4 l1_4.length c1_4), (.slice A1_5 l1_5.length c1_5)] 26 (0, 0))) ∧ Aside0 (wc.heap[gb302]? = some (.cells #[.int .i64 t289, .int .i64 t290, .int .i64 t291, (.slice Ao49 t292.length co49), (.slice Ao51 t295.length co51), (.slice Ao53 t298.length co53)] 41 (0, 0))) ∧ Aside0 (wc.heap[gb315]? = some (.cells #[.int .i64 t303, .int .i64 t304, .int .i64 t305, (.slice Ao63 t306.length co63), (.slice Ao64 t309.length co64), (.slice Ao65 t312.length co65)] 41 (0, 0))) ∧ Aside0 (wc.heap[gb328]? = some (.cells #[.int .i64 t316, .int .i64 t317, .int .i64 t318, (.slice Ao75 t319.length co75), (.slice Ao76 t322.length co76), (.slice Ao77 t325.length co77)] 41 (0, 0))) ∧ Aside0 (wc.heap[gb342]? = some (.cells #[.int .i64 t329, .int .i64 t330, .int .i64 t331, (.slice Ao87 t332.length co87), (.slice Ao88 t335.length co88), (.slice Ao89 t338.length co89)] 41 (0, 0))) ∧ Aside0 (Below w.heap.size w wc))
          case first =>
           have H := HC139.out
           clear HC139
           by_cases c153 : t374 < 0
           ·rw [if_pos c153] at H
            have c153b0 : decide (t374 < 0) = true := decide_eq_true c153
            clear c153
            (first | rw [c153b0] | (simp only [i64_w, i32_w]; rw [c153b0]) | skip)
            have H' := Aside0.mk H
            clear H
            go_wp2
            go_meet
            case rel => exact ⟨_, (true), (by first | rfl | (simp; done) | (simp [*]; done)), H', ⟨by have := HJ25.out; have := HJ118.out; have := HJ128.out; first | omega | exact Nat.le_refl _⟩, ⟨rRx9 HO_303003.out⟩, ⟨rRx9 HO_303004.out⟩, ⟨rRx9 HO_303005.out⟩, ⟨rRx9 HO_316003.out⟩, ⟨rRx9 HO_316004.out⟩, ⟨rRx9 HO_316005.out⟩, ⟨rRx9 HO_329003.out⟩, ⟨rRx9 HO_329004.out⟩, ⟨rRx9 HO_329005.out⟩, ⟨rRx9 HO_343003.out⟩, ⟨rRx9 HO_343004.out⟩, ⟨rRx9 HO_343005.out⟩, ⟨rBx9 BK261.out⟩, ⟨rBx9 BK262.out⟩, ⟨rBx9 BK302.out⟩, ⟨rBx9 BK315.out⟩, ⟨rBx9 BK328.out⟩, ⟨rBx9 BK342.out⟩, ⟨be6x9 HB.out GE261.out GE262.out GE302.out GE315.out GE328.out GE342.out⟩⟩
           ·rw [if_neg c153] at H
            have c153b0 : decide (t374 < 0) = false := decide_eq_false c153
            clear c153
            (first | rw [c153b0] | (simp only [i64_w, i32_w]; rw [c153b0]) | skip)
            replace H := Option.bind_eq_some_iff.mp H
            obtain ⟨t378, A1540, H⟩ := H
            have A154 := Aside0.mk A1540
            clear A1540
            by_cases c155 : t378 = true
            ·subst c155
             have H1 : (laws_FnExactMixModels.j3 kj128 a2 t301 (t341 != t301) a0_0 a0_1 a0_2 l0_3 l0_4 l0_5 a1_0 a1_1 a1_2 l1_3 l1_4 l1_5 t289 t290 t291 t292 t295 t298 t329 t330 t331 t332 t335 t338) = some r := by rw [if_pos rfl] at H; exact H
             clear H
             have H := H1
             clear H1
             have H' := Aside0.mk H
             clear H
             have hnb156 := NB342_261.out
             have hnc156 := NB261_342.out
             have hnb157 := NB342_262.out
             have hnc157 := NB262_342.out
             have hnb158 := NB342_302.out
             have hnc158 := NB302_342.out
             have hnb159 := NB342_315.out
             have hnc159 := NB315_342.out
             have hnb160 := NB342_328.out
             have hnc160 := NB328_342.out
             obtain ⟨hcz161_0, hcz161_1, hcz161_2, hcz161_3, hcz161_4, hcz161_5, hfz161_0, hfz161_1, hfz161_2, hfz161_3, hfz161_4, hfz161_5⟩ := cf6x9 BK342.out
             have hnb162 := NB302_261.out
             have hnc162 := NB261_302.out
             have hnb163 := NB302_262.out
             have hnc163 := NB262_302.out
             have hnb164 := NB302_315.out
             have hnc164 := NB315_302.out
             have hnb165 := NB302_328.out
             have hnc165 := NB328_302.out
             obtain ⟨hcz166_0, hcz166_1, hcz166_2, hcz166_3, hcz166_4, hcz166_5, hfz166_0, hfz166_1, hfz166_2, hfz166_3, hfz166_4, hfz166_5⟩ := cf6x9 BK302.out
             go_wp2_with (first | (go_at_call 24; (with_reducible refine (laws_eqModel.calls kj128 t329 t330 t331 _ _ t332 _ _ t335 _ _ t338 t289 t290 t291 _ _ t292 _ _ t295 _ _ t298 true _ ?side1 ?side2 ?side3 ?side4 ?side5 ?side6 ?side7 ?side8 ?side9 ?side10 ?side11 ?side12 A154.out).mono ?_); (case side1 => exact cRx9 HO_343003.out); (case side2 => exact (Kd.R_reads' HO_343003.out).2.1); (case side3 => exact cRx9 HO_343004.out); (case side4 => exact (Kd.R_reads' HO_343004.out).2.1); (case side5 => exact cRx9 HO_343005.out); (case side6 => exact (Kd.R_reads' HO_343005.out).2.1); (case side7 => exact cRx9 HO_303003.out); (case side8 => exact (Kd.R_reads' HO_303003.out).2.1); (case side9 => exact cRx9 HO_303004.out); (case side10 => exact (Kd.R_reads' HO_303004.out).2.1); (case side11 => exact cRx9 HO_303005.out); (case side12 => exact (Kd.R_reads' HO_303005.out).2.1); rintro e w167 ⟨rfl, hb⟩; replace HO_303003 := Aside0.mk (Kd.R_below (rRx9 HO_303003.out) hb); replace HO_303004 := Aside0.mk (Kd.R_below (rRx9 HO_303004.out) hb); replace HO_303005 := Aside0.mk (Kd.R_below (rRx9 HO_303005.out) hb); replace HO_316003 := Aside0.mk (Kd.R_below (rRx9 HO_316003.out) hb); replace HO_316004 := Aside0.mk (Kd.R_below (rRx9 HO_316004.out) hb); replace HO_316005 := Aside0.mk (Kd.R_below (rRx9 HO_316005.out) hb); replace HO_329003 := Aside0.mk (Kd.R_below (rRx9 HO_329003.out) hb); replace HO_329004 := Aside0.mk (Kd.R_below (rRx9 HO_329004.out) hb); replace HO_329005 := Aside0.mk (Kd.R_below (rRx9 HO_329005.out) hb); replace HO_343003 := Aside0.mk (Kd.R_below (rRx9 HO_343003.out) hb); replace HO_343004 := Aside0.mk (Kd.R_below (rRx9 HO_343004.out) hb); replace HO_343005 := Aside0.mk (Kd.R_below (rRx9 HO_343005.out) hb); replace BK261 := Aside0.mk (blk_below (rBx9 BK261.out) hb); replace BK262 := Aside0.mk (blk_below (rBx9 BK262.out) hb); replace BK302 := Aside0.mk (blk_below (rBx9 BK302.out) hb); replace BK315 := Aside0.mk (blk_below (rBx9 BK315.out) hb); replace BK328 := Aside0.mk (blk_below (rBx9 BK328.out) hb); replace BK342 := Aside0.mk (blk_below (rBx9 BK342.out) hb); replace HB := Aside0.mk (below_step (be6x9 HB.out GE261.out GE262.out GE302.out GE315.out GE328.out GE342.out) hb); (try clear hb); (try clear hb2); (try clear hk); (try clear hi)))
             go_meet
             case rel => exact ⟨_, ((t341 != t301)), (by first | rfl | (simp; done) | (simp [*]; done)), H', ⟨by have := HJ25.out; have := HJ118.out; have := HJ128.out; first | omega | exact Nat.le_refl _⟩, ⟨rRx9 HO_303003.out⟩, ⟨rRx9 HO_303004.out⟩, ⟨rRx9 HO_303005.out⟩, ⟨rRx9 HO_316003.out⟩, ⟨rRx9 HO_316004.out⟩, ⟨rRx9 HO_316005.out⟩, ⟨rRx9 HO_329003.out⟩, ⟨rRx9 HO_329004.out⟩, ⟨rRx9 HO_329005.out⟩, ⟨rRx9 HO_343003.out⟩, ⟨rRx9 HO_343004.out⟩, ⟨rRx9 HO_343005.out⟩, ⟨rBx9 BK261.out⟩, ⟨rBx9 BK262.out⟩, ⟨rBx9 BK302.out⟩, ⟨rBx9 BK315.out⟩, ⟨rBx9 BK328.out⟩, ⟨rBx9 BK342.out⟩, ⟨be6x9 HB.out GE261.out GE262.out GE302.out GE315.out GE328.out GE342.out⟩⟩
            ·replace c155 := Bool.eq_false_iff.mpr c155
             subst c155
             have H1 : (laws_FnExactMixModels.j3 kj128 a2 t301 true a0_0 a0_1 a0_2 l0_3 l0_4 l0_5 a1_0 a1_1 a1_2 l1_3 l1_4 l1_5 t289 t290 t291 t292 t295 t298 t329 t330 t331 t332 t335 t338) = some r := by rw [if_neg (show ¬ (false = true) by decide)] at H; exact H
             clear H
             have H := H1
             clear H1
             have H' := Aside0.mk H
             clear H
             have hnb168 := NB342_261.out
             have hnc168 := NB261_342.out
             have hnb169 := NB342_262.out
             have hnc169 := NB262_342.out
             have hnb170 := NB342_302.out
             have hnc170 := NB302_342.out
             have hnb171 := NB342_315.out
             have hnc171 := NB315_342.out
             have hnb172 := NB342_328.out
             have hnc172 := NB328_342.out
             obtain ⟨hcz173_0, hcz173_1, hcz173_2, hcz173_3, hcz173_4, hcz173_5, hfz173_0, hfz173_1, hfz173_2, hfz173_3, hfz173_4, hfz173_5⟩ := cf6x9 BK342.out
             have hnb174 := NB302_261.out
             have hnc174 := NB261_302.out
             have hnb175 := NB302_262.out
             have hnc175 := NB262_302.out
             have hnb176 := NB302_315.out
             have hnc176 := NB315_302.out
             have hnb177 := NB302_328.out
             have hnc177 := NB328_302.out
             obtain ⟨hcz178_0, hcz178_1, hcz178_2, hcz178_3, hcz178_4, hcz178_5, hfz178_0, hfz178_1, hfz178_2, hfz178_3, hfz178_4, hfz178_5⟩ := cf6x9 BK302.out
             go_wp2_with (first | (go_at_call 24; (with_reducible refine (laws_eqModel.calls kj128 t329 t330 t331 _ _ t332 _ _ t335 _ _ t338 t289 t290 t291 _ _ t292 _ _ t295 _ _ t298 false _ ?side1 ?side2 ?side3 ?side4 ?side5 ?side6 ?side7 ?side8 ?side9 ?side10 ?side11 ?side12 A154.out).mono ?_); (case side1 => exact cRx9 HO_343003.out); (case side2 => exact (Kd.R_reads' HO_343003.out).2.1); (case side3 => exact cRx9 HO_343004.out); (case side4 => exact (Kd.R_reads' HO_343004.out).2.1); (case side5 => exact cRx9 HO_343005.out); (case side6 => exact (Kd.R_reads' HO_343005.out).2.1); (case side7 => exact cRx9 HO_303003.out); (case side8 => exact (Kd.R_reads' HO_303003.out).2.1); (case side9 => exact cRx9 HO_303004.out); (case side10 => exact (Kd.R_reads' HO_303004.out).2.1); (case side11 => exact cRx9 HO_303005.out); (case side12 => exact (Kd.R_reads' HO_303005.out).2.1); rintro e w179 ⟨rfl, hb⟩; replace HO_303003 := Aside0.mk (Kd.R_below (rRx9 HO_303003.out) hb); replace HO_303004 := Aside0.mk (Kd.R_below (rRx9 HO_303004.out) hb); replace HO_303005 := Aside0.mk (Kd.R_below (rRx9 HO_303005.out) hb); replace HO_316003 := Aside0.mk (Kd.R_below (rRx9 HO_316003.out) hb); replace HO_316004 := Aside0.mk (Kd.R_below (rRx9 HO_316004.out) hb); replace HO_316005 := Aside0.mk (Kd.R_below (rRx9 HO_316005.out) hb); replace HO_329003 := Aside0.mk (Kd.R_below (rRx9 HO_329003.out) hb); replace HO_329004 := Aside0.mk (Kd.R_below (rRx9 HO_329004.out) hb); replace HO_329005 := Aside0.mk (Kd.R_below (rRx9 HO_329005.out) hb); replace HO_343003 := Aside0.mk (Kd.R_below (rRx9 HO_343003.out) hb); replace HO_343004 := Aside0.mk (Kd.R_below (rRx9 HO_343004.out) hb); replace HO_343005 := Aside0.mk (Kd.R_below (rRx9 HO_343005.out) hb); replace BK261 := Aside0.mk (blk_below (rBx9 BK261.out) hb); replace BK262 := Aside0.mk (blk_below (rBx9 BK262.out) hb); replace BK302 := Aside0.mk (blk_below (rBx9 BK302.out) hb); replace BK315 := Aside0.mk (blk_below (rBx9 BK315.out) hb); replace BK328 := Aside0.mk (blk_below (rBx9 BK328.out) hb); replace BK342 := Aside0.mk (blk_below (rBx9 BK342.out) hb); replace HB := Aside0.mk (below_step (be6x9 HB.out GE261.out GE262.out GE302.out GE315.out GE328.out GE342.out) hb); (try clear hb); (try clear hb2); (try clear hk); (try clear hi)))
             go_meet
             case rel => exact ⟨_, (true), (by first | rfl | (simp; done) | (simp [*]; done)), H', ⟨by have := HJ25.out; have := HJ118.out; have := HJ128.out; first | omega | exact Nat.le_refl _⟩, ⟨rRx9 HO_303003.out⟩, ⟨rRx9 HO_303004.out⟩, ⟨rRx9 HO_303005.out⟩, ⟨rRx9 HO_316003.out⟩, ⟨rRx9 HO_316004.out⟩, ⟨rRx9 HO_316005.out⟩, ⟨rRx9 HO_329003.out⟩, ⟨rRx9 HO_329004.out⟩, ⟨rRx9 HO_329005.out⟩, ⟨rRx9 HO_343003.out⟩, ⟨rRx9 HO_343004.out⟩, ⟨rRx9 HO_343005.out⟩, ⟨rBx9 BK261.out⟩, ⟨rBx9 BK262.out⟩, ⟨rBx9 BK302.out⟩, ⟨rBx9 BK315.out⟩, ⟨rBx9 BK328.out⟩, ⟨rBx9 BK342.out⟩, ⟨be6x9 HB.out GE261.out GE262.out GE302.out GE315.out GE328.out GE342.out⟩⟩
          case rest =>
           exact rest1x9
end Go.Proofs.Ytagnldmaglbpaaa.PFnExactMixModels
