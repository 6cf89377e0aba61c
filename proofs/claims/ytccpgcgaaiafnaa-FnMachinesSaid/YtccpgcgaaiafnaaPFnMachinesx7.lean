/- This text is this session's own, not the print's: programs (wip/squeeze.py and others) made it out of what print.sh, or wip/ownprint.py, had written (BYTES set higher), its facts said by short words. -/
import Derived.Test.YtccpgcgaaiafnaaPFnMachinesx0
import Derived.Test.YtccpgcgaaiafnaaPFnMachinesx1
import Derived.Test.YtccpgcgaaiafnaaPFnMachinesx2
import Derived.Test.YtccpgcgaaiafnaaPFnMachinesx3
import Derived.Test.YtccpgcgaaiafnaaPFnMachinesx4
import Derived.Test.YtccpgcgaaiafnaaPFnMachinesx5
import Derived.Test.YtccpgcgaaiafnaaPFnMachinesx6
import Derived.Test.YtccpgcgaaiafnaaPFnMachinesrx7
import Derived.Test.YtccpgcgaaiafnaaPFnMachineswx7
namespace Go.Proofs.Ytccpgcgaaiafnaa.PFnMachines
open Go.RowKit Go.Proofs.YtccpgcgaaiafnaaW.PrintWords Go.Proofs.YtccpgcgaaiafnaaW.PrintLast Go.Proofs.YtccpgcgaaiafnaaW.PrintMore
attribute [local go_sem] max2_int min2_int max_two min_two max_three min_three max_four min_four   -- for this text's walks alone
set_option linter.unusedVariables false
set_option linter.unusedSimpArgs false

/-! ### laws_FnMachines: function 3 -/
mutual
def laws_FnMachines.j0 : Nat → Int → List Bool → Bool → List Bool → Bool → Int → Int → Int → Bool → Int → Int → Bool → Int → Int → Bool → Int → Int → Bool → Int → Int → Bool → Int → Bool → Int → Bool → Int → Bool → Int → Int → Bool → Int → Int → Bool → Option (Bool)
 | 0, _, _, _, _, _, _, _, _, _, _, _, _, _, _, _, _, _, _, _, _, _, _, _, _, _, _, _, _, _, _, _, _, _ => none
 | k + 1, x7, x8, x9, x10, x11, x13, x14, x15, x16, x17, x18, x19, x20, x21, x22, x23, x24, x25, x27, x28, x29, x30, x31, x32, x33, x34, x35, x391000, x391001, x391002, x404000, x404001, x404002 => if (x9 != x11) = true then (laws_FnMachines.j1 k x7 x8 x9 x10 x13 x16 x17 x18 x22 x23 x24 true x391000 x391001 x391002 x404000 x404001 x404002) else ((laws_qBools.f k x8 x10).bind fun t428 => (if t428 = true then (if (x16 != x19) = true then (laws_FnMachines.j1 k x7 x8 x9 x10 x13 x16 x17 x18 x22 x23 x24 true x391000 x391001 x391002 x404000 x404001 x404002) else (if x14 = x17 then (if x15 = x18 then (if (x22 != x25) = true then (laws_FnMachines.j1 k x7 x8 x9 x10 x13 x16 x17 x18 x22 x23 x24 true x391000 x391001 x391002 x404000 x404001 x404002) else (if x20 = x23 then (if x21 = x24 then (if (x29 != x31) = true then (laws_FnMachines.j1 k x7 x8 x9 x10 x13 x16 x17 x18 x22 x23 x24 true x391000 x391001 x391002 x404000 x404001 x404002) else (if x28 = x30 then (if (x33 != x35) = true then (laws_FnMachines.j1 k x7 x8 x9 x10 x13 x16 x17 x18 x22 x23 x24 true x391000 x391001 x391002 x404000 x404001 x404002) else (if x32 = x34 then ((impl_IsMachine.f x391000 x391001 x391002).bind fun t429 => ((spec_IsMachine.f x391000 x391001 x391002).bind fun t430 => (if (t429 != t430) = true then (laws_FnMachines.j1 k x7 x8 x9 x10 x13 x16 x17 x18 x22 x23 x24 true x391000 x391001 x391002 x404000 x404001 x404002) else (if x29 = true then (if x30 < 0 then (laws_FnMachines.j1 k x7 x8 x9 x10 x13 x16 x17 x18 x22 x23 x24 true x391000 x391001 x391002 x404000 x404001 x404002) else (laws_FnMachines.j1 k x7 x8 x9 x10 x13 x16 x17 x18 x22 x23 x24 (decide (x30 ≥ x27)) x391000 x391001 x391002 x404000 x404001 x404002)) else (laws_FnMachines.j1 k x7 x8 x9 x10 x13 x16 x17 x18 x22 x23 x24 false x391000 x391001 x391002 x404000 x404001 x404002))))) else (laws_FnMachines.j1 k x7 x8 x9 x10 x13 x16 x17 x18 x22 x23 x24 true x391000 x391001 x391002 x404000 x404001 x404002))) else (laws_FnMachines.j1 k x7 x8 x9 x10 x13 x16 x17 x18 x22 x23 x24 true x391000 x391001 x391002 x404000 x404001 x404002))) else (laws_FnMachines.j1 k x7 x8 x9 x10 x13 x16 x17 x18 x22 x23 x24 true x391000 x391001 x391002 x404000 x404001 x404002)) else (laws_FnMachines.j1 k x7 x8 x9 x10 x13 x16 x17 x18 x22 x23 x24 true x391000 x391001 x391002 x404000 x404001 x404002))) else (laws_FnMachines.j1 k x7 x8 x9 x10 x13 x16 x17 x18 x22 x23 x24 true x391000 x391001 x391002 x404000 x404001 x404002)) else (laws_FnMachines.j1 k x7 x8 x9 x10 x13 x16 x17 x18 x22 x23 x24 true x391000 x391001 x391002 x404000 x404001 x404002))) else (laws_FnMachines.j1 k x7 x8 x9 x10 x13 x16 x17 x18 x22 x23 x24 true x391000 x391001 x391002 x404000 x404001 x404002)))
def laws_FnMachines.j1 : Nat → Int → List Bool → Bool → List Bool → Int → Bool → Int → Int → Bool → Int → Int → Bool → Int → Int → Bool → Int → Int → Bool → Option (Bool)
 | 0, _, _, _, _, _, _, _, _, _, _, _, _, _, _, _, _, _, _ => none
 | k + 1, x7, x8, x9, x10, x13, x16, x17, x18, x22, x23, x24, x209, x391000, x391001, x391002, x404000, x404001, x404002 => if x209 = true then (some false) else (if x22 = true then (if x23 < 0 then (laws_FnMachines.j2 k x7 x8 x9 x10 x13 x22 x23 x24 true x391000 x391001 x391002 x404000 x404001 x404002) else (if x23 > x24 then (laws_FnMachines.j2 k x7 x8 x9 x10 x13 x22 x23 x24 true x391000 x391001 x391002 x404000 x404001 x404002) else (if x16 = true then (if x17 < 0 then (laws_FnMachines.j2 k x7 x8 x9 x10 x13 x22 x23 x24 true x391000 x391001 x391002 x404000 x404001 x404002) else (laws_FnMachines.j2 k x7 x8 x9 x10 x13 x22 x23 x24 (decide (x17 > (wrap64 (x13 * x18)))) x391000 x391001 x391002 x404000 x404001 x404002)) else (laws_FnMachines.j2 k x7 x8 x9 x10 x13 x22 x23 x24 false x391000 x391001 x391002 x404000 x404001 x404002)))) else (if x16 = true then (if x17 < 0 then (laws_FnMachines.j2 k x7 x8 x9 x10 x13 x22 x23 x24 true x391000 x391001 x391002 x404000 x404001 x404002) else (laws_FnMachines.j2 k x7 x8 x9 x10 x13 x22 x23 x24 (decide (x17 > (wrap64 (x13 * x18)))) x391000 x391001 x391002 x404000 x404001 x404002)) else (laws_FnMachines.j2 k x7 x8 x9 x10 x13 x22 x23 x24 false x391000 x391001 x391002 x404000 x404001 x404002)))
def laws_FnMachines.j2 : Nat → Int → List Bool → Bool → List Bool → Int → Bool → Int → Int → Bool → Int → Int → Bool → Int → Int → Bool → Option (Bool)
 | 0, _, _, _, _, _, _, _, _, _, _, _, _, _, _, _ => none
 | k + 1, x7, x8, x9, x10, x13, x22, x23, x24, x233, x391000, x391001, x391002, x404000, x404001, x404002 => if x233 = true then (some false) else (if x22 = true then (laws_FnMachines.j3 k x7 x8 x9 x10 x13 x23 x24 (decide (x13 < 4)) x391000 x391001 x391002 x404000 x404001 x404002) else (laws_FnMachines.j3 k x7 x8 x9 x10 x13 x23 x24 false x391000 x391001 x391002 x404000 x404001 x404002))
def laws_FnMachines.j3 : Nat → Int → List Bool → Bool → List Bool → Int → Int → Int → Bool → Int → Int → Bool → Int → Int → Bool → Option (Bool)
 | 0, _, _, _, _, _, _, _, _, _, _, _, _, _, _ => none
 | k + 1, x7, x8, x9, x10, x13, x23, x24, x238, x391000, x391001, x391002, x404000, x404001, x404002 => if x238 = true then ((impl_ReadyChance.f k x404000 x404001 x404002 (wrap64 (x13 + 1))).bind fun bt431 => ((spec_ReadyChance.f k x404000 x404001 x404002 (wrap64 (x13 + 1))).bind fun bt434 => (if bt431.2.2 = true then (if bt434.2.2 = true then (if bt431.1 = bt434.1 then (if bt431.2.1 = bt434.2.1 then (if (wrap64 ((wrap64 (bt434.1 * x24)) * 100)) = (wrap64 (bt434.2.1 * (wrap64 ((wrap64 (x23 * (wrap64 (100 - x404000)))) + (wrap64 ((wrap64 (x24 - x23)) * x404001)))))) then (laws_FnMachines.j4 k x7 x8 x9 x10 x391000 x391001 x391002) else (some false)) else (some false)) else (some false)) else (some false)) else (some false)))) else (laws_FnMachines.j4 k x7 x8 x9 x10 x391000 x391001 x391002)
def laws_FnMachines.j4 : Nat → Int → List Bool → Bool → List Bool → Int → Int → Bool → Option (Bool)
 | 0, _, _, _, _, _, _, _ => none
 | k + 1, x7, x8, x9, x10, x391000, x391001, x391002 => if x9 = true then ((impl_ReadyIn.f k x8).bind fun bt437 => ((impl_LongestDown.f k x8).bind fun bt439 => (if bt437.2 = true then (if bt439.2 = true then (if (wrap64 (bt437.1 + bt439.1)) > (x10.length : Int) then (some false) else (if (x10.length : Int) = x7 then (if x7 = 0 then (some true) else (if 0 < (x10.length : Int) then (if ((rdOf false x10 0) == x391002) = true then (if x391000 > 0 then (some true) else (if x391002 = true then (some (bt437.1 == x7)) else (some true))) else (some false)) else (none))) else (some false))) else (some false)) else (some false)))) else (some true)
end
def laws_FnMachines.f (k : Nat) (l0 : List Int) (l1 : List Int) : Option (Bool) := if (wrap64 ((l0.length : Int) + (l1.length : Int))) > 1048576 then (some true) else ((spec_DrawStatesOf.f l0).bind fun bt385 => ((impl_StatesOf.f k bt385.1 bt385.2.1 bt385.2.2.1 bt385.2.2.2.1 bt385.2.2.2.2).bind fun bt391 => ((spec_StatesOf.f k bt385.1 bt385.2.1 bt385.2.2.1 bt385.2.2.2.1 bt385.2.2.2.2).bind fun bt395 => ((spec_DrawMeanReady.f l1).bind fun bt399 => ((impl_MeanReady.f k bt399.1 bt399.2.1 bt399.2.2.1 bt399.2.2.2).bind fun bt404 => ((spec_MeanReady.f k bt399.1 bt399.2.1 bt399.2.2.1 bt399.2.2.2).bind fun bt407 => ((impl_ReadyChance.f k bt399.1 bt399.2.1 bt399.2.2.1 bt399.2.2.2).bind fun bt410 => ((spec_ReadyChance.f k bt399.1 bt399.2.1 bt399.2.2.1 bt399.2.2.2).bind fun bt413 => ((spec_DrawNumberFor.f k l1).bind fun bt416 => ((impl_NumberFor.f k bt416.1 bt416.2).bind fun bt420 => ((spec_NumberFor.f k bt416.1 bt416.2).bind fun bt422 => ((impl_MixOf.f k bt416.1).bind fun bt424 => ((spec_MixOf.f k bt416.1).bind fun bt426 => (laws_FnMachines.j0 k bt385.2.2.2.2 bt391.1 bt391.2 bt395.1 bt395.2 bt399.2.2.2 bt404.1 bt404.2.1 bt404.2.2 bt407.1 bt407.2.1 bt407.2.2 bt410.1 bt410.2.1 bt410.2.2 bt413.1 bt413.2.1 bt413.2.2 bt416.2 bt420.1 bt420.2 bt422.1 bt422.2 bt424.1 bt424.2 bt426.1 bt426.2 bt385.1 bt385.2.1 bt385.2.2.1 bt399.1 bt399.2.1 bt399.2.2.1))))))))))))))
def laws_FnMachines.T16 : Bool × List (List Nat × List Nat) := (true, [([], []), ([], []), ([0, 1], [0, 1]), ([2], [2]), ([3], [3]), ([3], [3]), ([4, 5, 3, 3], [3, 4, 5]), ([6, 3], [3, 6]), ([3, 7], [3, 7]), ([8, 6], [8]), ([9], [9]), ([9], [9]), ([10, 11, 9], [9, 10, 11]), ([9, 12], [9, 12]), ([13, 9], [13]), ([14], [14]), ([14], [14]), ([15, 16, 14], [14, 15, 16]), ([14, 17], [14, 17]), ([18, 14], [18]), ([19], [19]), ([19], [19]), ([20, 21, 19], [19, 20, 21]), ([19, 22], [19, 22]), ([23, 19], [23]), ([24], [24]), ([24], [24]), ([25, 26, 24], [24, 25, 26]), ([24, 27], [24, 27]), ([28, 24], [28]), ([29], [29]), ([29], [29]), ([30, 31, 29], [29, 30, 31]), ([29, 32], [29, 32]), ([33, 29], [33]), ([34], [34]), ([34], [34]), ([35, 36, 34], [34, 35, 36]), ([34, 37], [34, 37]), ([38, 34], [38]), ([39], [39]), ([39], [39]), ([40, 41, 39], [39, 40, 41]), ([39, 42], [39, 42]), ([43, 39], [43]), ([44], [44]), ([44], [44]), ([45, 46, 44], [44, 45, 46]), ([44, 47], [44, 47]), ([48, 44], [48]), ([49], [49]), ([49], [49]), ([50, 51, 49], [49, 50, 51]), ([49, 52], [49, 52]), ([53, 49], [53]), ([54], [54]), ([54], [54]), ([55, 56, 54], [54, 55, 56]), ([54, 57], [54, 57]), ([58, 54], [58]), ([59], [59]), ([60, 59, 59], [59, 60]), ([59], [59]), ([62, 61, 59], [59, 62]), ([61, 63, 59], [59, 61, 63]), ([59, 64], [59, 64]), ([65, 63], [65]), ([66], [66]), ([67, 66, 66], [66, 67]), ([68], [68]), ([69, 68], [68, 69]), ([70, 68, 68], [68, 70]), ([71], [71]), ([71], [71]), ([72, 73, 71], [71, 72, 73]), ([71, 74, 68], [68, 71, 74]), ([68, 75, 66], [66, 68, 75]), ([66, 76], [66, 76])])
def laws_FnMachines.B16 : List Nat := [0, 0, 3, 7, 15, 15, 63, 127, 255, 511, 1023, 1023, 4095, 8191, 16383, 32767, 32767, 131071, 262143, 524287, 1048575, 1048575, 4194303, 8388607, 16777215, 33554431, 33554431, 134217727, 268435455, 536870911, 1073741823, 1073741823, 4294967295, 8589934591, 17179869183, 34359738367, 34359738367, 137438953471, 274877906943, 549755813887, 1099511627775, 1099511627775, 4398046511103, 8796093022207, 17592186044415, 35184372088831, 35184372088831, 140737488355327, 281474976710655, 562949953421311, 1125899906842623, 1125899906842623, 4503599627370495, 9007199254740991, 18014398509481983, 36028797018963967, 36028797018963967, 144115188075855871, 288230376151711743, 576460752303423487, 1152921504606846975, 2305843009213693951, 1152921504606846975, 9223372036854775807, 18446744073709551615, 36893488147419103231, 73786976294838206463, 147573952589676412927, 295147905179352825855, 590295810358705651711, 1180591620717411303423, 2361183241434822606847, 4722366482869645213695, 4722366482869645213695, 18889465931478580854783, 37778931862957161709567, 75557863725914323419135, 151115727451828646838271]
theorem laws_FnMachines.tab16 : rtab .any (opsOf Try.f3 16) = laws_FnMachines.T16 := by kernel_rfl
theorem laws_FnMachines.bits16 : waitsOk laws_FnMachines.T16.2 laws_FnMachines.B16 = true := by kernel_rfl
def laws_FnMachines.T31 : Bool × List (List Nat × List Nat) := (true, [([], []), ([0], [0]), ([1], [1]), ([2], [2]), ([3, 2], [2, 3]), ([4, 2], [2, 4]), ([2], [2]), ([6, 2], [2, 6]), ([5, 7, 2], [2, 5, 7]), ([8, 2, 2], [2, 8]), ([9], [9]), ([10, 9], [9, 10]), ([11, 9], [9, 11]), ([12, 9, 9], [9, 12]), ([13], [13]), ([14, 13], [13, 14]), ([15, 13], [13, 15]), ([13, 16, 9], [9, 13, 16]), ([17, 13, 9], [9, 17]), ([18], [18]), ([18], [18]), ([19, 20, 18], [18, 19, 20]), ([18, 21, 9], [9, 18, 21]), ([9, 22, 2], [2, 9, 22]), ([2, 23], [2, 23]), ([24, 18, 0, 1, 2, 3, 4, 5, 6, 7, 8, 9, 10, 11, 12, 13, 14, 15, 16, 17, 18, 19, 20, 21, 22, 23, 24], [24])])
def laws_FnMachines.B31 : List Nat := [0, 1, 3, 7, 15, 31, 7, 71, 255, 511, 1023, 2047, 4095, 8191, 16383, 32767, 65535, 131071, 262143, 524287, 524287, 2097151, 4194303, 8388607, 16777215, 33554431]
theorem laws_FnMachines.tab31 : rtab .any (opsOf Try.f3 31) = laws_FnMachines.T31 := by kernel_rfl
theorem laws_FnMachines.bits31 : waitsOk laws_FnMachines.T31.2 laws_FnMachines.B31 = true := by kernel_rfl
set_option maxHeartbeats 8000000 in
set_option maxRecDepth 100000 in
theorem laws_FnMachines.calls (k : Nat) (A0 : Option Addr) (c0 : Nat) (l0 : List Int) (A1 : Option Addr) (c1 : Nat) (l1 : List Int) (r : Bool) (w : World) (hr0 : Kd.C (Kd.int .u8) w A0 l0.length l0) (hc0 : l0.length ≤ c0) (hr1 : Kd.C (Kd.int .u8) w A1 l1.length l1) (hc1 : l1.length ≤ c1) (h : laws_FnMachines.f k l0 l1 = some r) (hrt : Aside0 (r = true)) :
  Calls Try.prog 3 #[.slice A0 l0.length c0, .slice A1 l1.length c1] w fun e w' => e = .returned (.bool r) ∧ Below w.heap.size w w' := by
 have hu24 := Try.underlying24
 have HR0 := Aside0.mk hr0
 have HC0 := Aside0.mk hc0
 clear hr0 hc0
 have HR1 := Aside0.mk hr1
 have HC1 := Aside0.mk hc1
 clear hr1 hc1
 have HB := Aside0.mk (Below.refl w.heap.size w)
 have H : (if (wrap64 ((l0.length : Int) + (l1.length : Int))) > 1048576 then (some true) else ((spec_DrawStatesOf.f l0).bind fun bt385 => ((impl_StatesOf.f k bt385.1 bt385.2.1 bt385.2.2.1 bt385.2.2.2.1 bt385.2.2.2.2).bind fun bt391 => ((spec_StatesOf.f k bt385.1 bt385.2.1 bt385.2.2.1 bt385.2.2.2.1 bt385.2.2.2.2).bind fun bt395 => ((spec_DrawMeanReady.f l1).bind fun bt399 => ((impl_MeanReady.f k bt399.1 bt399.2.1 bt399.2.2.1 bt399.2.2.2).bind fun bt404 => ((spec_MeanReady.f k bt399.1 bt399.2.1 bt399.2.2.1 bt399.2.2.2).bind fun bt407 => ((impl_ReadyChance.f k bt399.1 bt399.2.1 bt399.2.2.1 bt399.2.2.2).bind fun bt410 => ((spec_ReadyChance.f k bt399.1 bt399.2.1 bt399.2.2.1 bt399.2.2.2).bind fun bt413 => ((spec_DrawNumberFor.f k l1).bind fun bt416 => ((impl_NumberFor.f k bt416.1 bt416.2).bind fun bt420 => ((spec_NumberFor.f k bt416.1 bt416.2).bind fun bt422 => ((impl_MixOf.f k bt416.1).bind fun bt424 => ((spec_MixOf.f k bt416.1).bind fun bt426 => (laws_FnMachines.j0 k bt385.2.2.2.2 bt391.1 bt391.2 bt395.1 bt395.2 bt399.2.2.2 bt404.1 bt404.2.1 bt404.2.2 bt407.1 bt407.2.1 bt407.2.2 bt410.1 bt410.2.1 bt410.2.2 bt413.1 bt413.2.1 bt413.2.2 bt416.2 bt420.1 bt420.2 bt422.1 bt422.2 bt424.1 bt424.2 bt426.1 bt426.2 bt385.1 bt385.2.1 bt385.2.2.1 bt399.1 bt399.2.1 bt399.2.2.1))))))))))))))) = some r := h
 clear h
 by_cases c3 : (wrap64 ((l0.length : Int) + (l1.length : Int))) > 1048576
 ·rw [if_pos c3] at H
  have c3b0 : decide (1048576 < (wrap64 ((l0.length : Int) + (l1.length : Int)))) = true := decide_eq_true c3
  clear c3
  as_aux_lemma =>
   obtain rfl := Option.some.inj H
   go_enter Try.func3, Try.ntmps3
   go_wp2
   go_ret
   exact ⟨by first | rfl | (simp [errW_none, errW_some] <;> rfl) | (simp [*, errW_none, errW_some] <;> rfl), be0x7 HB.out⟩
 ·rw [if_neg c3] at H
  have c3b0 : decide (1048576 < (wrap64 ((l0.length : Int) + (l1.length : Int)))) = false := decide_eq_false c3
  clear c3
  replace H := Option.bind_eq_some_iff.mp H
  obtain ⟨⟨t385, t386, t387, t388, t389⟩, A40, H⟩ := H
  (try dsimp only at H)
  have A4 := Aside0.mk A40
  clear A40
  replace H := Option.bind_eq_some_iff.mp H
  obtain ⟨⟨t391, t394⟩, A50, H⟩ := H
  (try dsimp only at H)
  have A5 := Aside0.mk A50
  clear A50
  replace H := Option.bind_eq_some_iff.mp H
  obtain ⟨⟨t395, t398⟩, A60, H⟩ := H
  (try dsimp only at H)
  have A6 := Aside0.mk A60
  clear A60
  replace H := Option.bind_eq_some_iff.mp H
  obtain ⟨⟨t399, t400, t401, t402⟩, A70, H⟩ := H
  (try dsimp only at H)
  have A7 := Aside0.mk A70
  clear A70
  replace H := Option.bind_eq_some_iff.mp H
  obtain ⟨⟨t404, t405, t406⟩, A80, H⟩ := H
  (try dsimp only at H)
  have A8 := Aside0.mk A80
  clear A80
  replace H := Option.bind_eq_some_iff.mp H
  obtain ⟨⟨t407, t408, t409⟩, A90, H⟩ := H
  (try dsimp only at H)
  have A9 := Aside0.mk A90
  clear A90
  replace H := Option.bind_eq_some_iff.mp H
  obtain ⟨⟨t410, t411, t412⟩, A100, H⟩ := H
  (try dsimp only at H)
  have A10 := Aside0.mk A100
  clear A100
  replace H := Option.bind_eq_some_iff.mp H
  obtain ⟨⟨t413, t414, t415⟩, A110, H⟩ := H
  (try dsimp only at H)
  have A11 := Aside0.mk A110
  clear A110
  replace H := Option.bind_eq_some_iff.mp H
  obtain ⟨⟨t416, t417⟩, A120, H⟩ := H
  (try dsimp only at H)
  have A12 := Aside0.mk A120
  clear A120
  replace H := Option.bind_eq_some_iff.mp H
  obtain ⟨⟨t420, t421⟩, A130, H⟩ := H
  (try dsimp only at H)
  have A13 := Aside0.mk A130
  clear A130
  replace H := Option.bind_eq_some_iff.mp H
  obtain ⟨⟨t422, t423⟩, A140, H⟩ := H
  (try dsimp only at H)
  have A14 := Aside0.mk A140
  clear A140
  replace H := Option.bind_eq_some_iff.mp H
  obtain ⟨⟨t424, t425⟩, A150, H⟩ := H
  (try dsimp only at H)
  have A15 := Aside0.mk A150
  clear A150
  have HC16 := Aside0.mk H
  clear H
  go_enter Try.func3, Try.ntmps3
  go_upto_region 15 with (first | ((with_reducible refine gate_callee (f := 5) rfl ?_); refine goesL_ (some 54) rfl rfl Try.func5 (by kernel_rfl) rfl #[.slice A0 l0.length c0] rfl mpx7 ?_; (with_reducible refine (spec_DrawStatesOf.calls _ _ l0 t385 t386 t387 t388 t389 _ ?side1 ?side2 A4.out).mono ?_); (case side1 => repeat (first | exact HR0.out | (with_reducible refine Kd.C_alloc ?_ _) | (with_reducible refine Kd.C_drewN ?_ _) | (with_reducible refine Kd.C_drew ?_))); (case side2 => exact HC0.out); rintro e w17 ⟨rfl, hb⟩; refine ⟨_, rfl, ?_⟩; replace HB := Aside0.mk (below_step (be0x7 HB.out) hb); (try clear hb); (try clear hb2); (try clear hk); (try clear hi)) | ((with_reducible refine gate_dst (N := 5) rfl ?_); (try (refine gate_guard (by rfl) ?_; dsimp only)); refine box_event ?hg (N := 5) ?hd (cs := #[.int .i64 0, .int .i64 0, .bool false]) (t := 24) ?hr ?_; (case hd => rfl); (case hg => rfl); (case hr => first | (go_simp; done) | (go_simp; rfl)); intro gb390 hg w18 hbox hb; have BK390 := Aside0.mk (hbox); have GW390 := Aside0.mk ((by rw [hg]; exact (below_size (be0x7 HB.out)) : w.heap.size ≤ gb390)); have GE390 := Aside0.mk ((by rw [hg]; exact (below_size (be0x7 HB.out)) : w.heap.size ≤ gb390)); replace HB := Aside0.mk (below_step (be0x7 HB.out) hb); clear hb hbox hg; obtain ⟨hcz19_0, hcz19_1, hcz19_2, hfz19_0, hfz19_1, hfz19_2⟩ := cf3x7 BK390.out) | ((with_reducible refine gate_callee (f := 6) rfl ?_); refine goesL_ (some 62) rfl rfl Try.func6 (by kernel_rfl) rfl #[.agg #[.int .i64 t385, .int .i64 t386, .bool t387], .int .i64 t388, .int .i64 t389] rfl mpx7 ?_; (with_reducible refine (impl_StatesOf.calls k t385 t386 t387 t388 t389 t391 t394 _ A5.out).mono ?_); rintro e w20 ⟨v392, rfl, ho0, hb⟩; refine ⟨_, rfl, ?_⟩; have HO393 := Aside0.mk (Kd.R_lower ho0 (below_size (be1x7 HB.out GE390.out))); replace BK390 := Aside0.mk (blk_below (g := gb390) (o := .cells #[.int .i64 t385, .int .i64 t386, .bool t387] 24 (0, 0)) (by (with_reducible repeat (first | refine blk_drewN ?_ _ | refine blk_drew ?_ | refine blk_alloc ?_ _)); refine blk_put (cs := #[.int .i64 t385, .int .i64 t386, .bool false]) ?_ 2 _ rfl; (with_reducible repeat (first | refine blk_drewN ?_ _ | refine blk_drew ?_ | refine blk_alloc ?_ _)); refine blk_put (cs := #[.int .i64 t385, .int .i64 0, .bool false]) ?_ 1 _ rfl; (with_reducible repeat (first | refine blk_drewN ?_ _ | refine blk_drew ?_ | refine blk_alloc ?_ _)); refine blk_put (cs := #[.int .i64 0, .int .i64 0, .bool false]) ?_ 0 _ rfl; (with_reducible repeat (first | refine blk_drewN ?_ _ | refine blk_drew ?_ | refine blk_alloc ?_ _)); exact BK390.out) hb); replace HB := Aside0.mk (below_step (be1x7 HB.out GE390.out) hb); (try clear hb); (try clear hb2); (try clear hk); (try clear hi); (try clear ho0); obtain ⟨hcz21_0, hcz21_1, hcz21_2, hfz21_0, hfz21_1, hfz21_2⟩ := cf3x7 BK390.out) | ((with_reducible refine gate_callee (f := 7) rfl ?_); refine goesL_ (some 69) rfl rfl Try.func7 (by kernel_rfl) rfl #[.agg #[.int .i64 t385, .int .i64 t386, .bool t387], .int .i64 t388, .int .i64 t389] rfl mpx7 ?_; (with_reducible refine (spec_StatesOf.calls k t385 t386 t387 t388 t389 t395 t398 _ A6.out).mono ?_); rintro e w22 ⟨v396, rfl, ho0, hb⟩; refine ⟨_, rfl, ?_⟩; have HO397 := Aside0.mk (Kd.R_lower (nwx7 ho0 (rRx7 HO393.out)) (below_size (be1x7 HB.out GE390.out))); replace HO393 := Aside0.mk (Kd.R_elder' (rRx7 HO393.out) (Kd.R_base ho0) hb); replace BK390 := Aside0.mk (blk_below (rBx7 BK390.out) hb); replace HB := Aside0.mk (below_step (be1x7 HB.out GE390.out) hb); (try clear hb); (try clear hb2); (try clear hk); (try clear hi); (try clear ho0)) | ((with_reducible refine gate_callee (f := 8) rfl ?_); refine goesL_ (some 74) rfl rfl Try.func8 (by kernel_rfl) rfl #[.slice A1 l1.length c1] rfl mpx7 ?_; (with_reducible refine (spec_DrawMeanReady.calls _ _ l1 t399 t400 t401 t402 _ ?side1 ?side2 A7.out).mono ?_); (case side1 => exact rCx7 (Kd.C_below HR1.out HB.out)); (case side2 => exact HC1.out); rintro e w23 ⟨rfl, hb⟩; refine ⟨_, rfl, ?_⟩; replace HO393 := Aside0.mk (Kd.R_below (rRx7 HO393.out) hb); replace HO397 := Aside0.mk (Kd.R_below (rRx7 HO397.out) hb); replace BK390 := Aside0.mk (blk_below (rBx7 BK390.out) hb); replace HB := Aside0.mk (below_step (be1x7 HB.out GE390.out) hb); (try clear hb); (try clear hb2); (try clear hk); (try clear hi)) | ((with_reducible refine gate_dst (N := 12) rfl ?_); (try (refine gate_guard (by rfl) ?_; dsimp only)); refine box_event ?hg (N := 12) ?hd (cs := #[.int .i64 0, .int .i64 0, .bool false]) (t := 24) ?hr ?_; (case hd => rfl); (case hg => rfl); (case hr => first | (go_simp; done) | (go_simp; rfl)); intro gb403 hg w24 hbox hb; replace HO393 := Aside0.mk (Kd.R_below (rRx7 HO393.out) hb); replace HO397 := Aside0.mk (Kd.R_below (rRx7 HO397.out) hb); have BK403 := Aside0.mk (hbox); have GW403 := Aside0.mk ((by rw [hg]; exact (below_size (be1x7 HB.out GE390.out)) : w.heap.size ≤ gb403)); have GE403 := Aside0.mk ((by rw [hg]; exact (below_size (be1x7 HB.out GE390.out)) : w.heap.size ≤ gb403)); replace HB := Aside0.mk (below_step (be1x7 HB.out GE390.out) hb); have NB390_403 := Aside0.mk ((by rw [hg]; exact Nat.ne_of_lt (blk_lt (rBx7 BK390.out)) : gb390 ≠ gb403)); have NB403_390 := Aside0.mk ((by rw [hg]; exact Nat.ne_of_gt (blk_lt (rBx7 BK390.out)) : gb403 ≠ gb390)); replace BK390 := Aside0.mk (blk_below (rBx7 BK390.out) hb); clear hb hbox hg; have hnb25 := NB403_390.out; have hnc25 := NB390_403.out; obtain ⟨hcz26_0, hcz26_1, hcz26_2, hfz26_0, hfz26_1, hfz26_2⟩ := cf3x7 BK403.out) | ((with_reducible refine gate_callee (f := 9) rfl ?_); refine goesL_ (some 80) rfl rfl Try.func9 (by kernel_rfl) rfl #[.agg #[.int .i64 t399, .int .i64 t400, .bool t401], .int .i64 t402] rfl mpx7 ?_; (with_reducible refine (impl_MeanReady.calls k t399 t400 t401 t402 t404 t405 t406 _ A8.out).mono ?_); rintro e w27 ⟨rfl, hb⟩; refine ⟨_, rfl, ?_⟩; replace HO393 := Aside0.mk (Kd.R_below (sR3x7 HO393.out BK403.out) hb); replace HO397 := Aside0.mk (Kd.R_below (sR3x7 HO397.out BK403.out) hb); replace BK390 := Aside0.mk (blk_below (bb3x7 BK390.out NB390_403.out) hb); replace BK403 := Aside0.mk (blk_below (g := gb403) (o := .cells #[.int .i64 t399, .int .i64 t400, .bool t401] 24 (0, 0)) (by (with_reducible repeat (first | refine blk_drewN ?_ _ | refine blk_drew ?_ | refine blk_alloc ?_ _)); refine blk_put (cs := #[.int .i64 t399, .int .i64 t400, .bool false]) ?_ 2 _ rfl; (with_reducible repeat (first | refine blk_drewN ?_ _ | refine blk_drew ?_ | refine blk_alloc ?_ _)); refine blk_put (cs := #[.int .i64 t399, .int .i64 0, .bool false]) ?_ 1 _ rfl; (with_reducible repeat (first | refine blk_drewN ?_ _ | refine blk_drew ?_ | refine blk_alloc ?_ _)); refine blk_put (cs := #[.int .i64 0, .int .i64 0, .bool false]) ?_ 0 _ rfl; (with_reducible repeat (first | refine blk_drewN ?_ _ | refine blk_drew ?_ | refine blk_alloc ?_ _)); exact BK403.out) hb); replace HB := Aside0.mk (below_step (be2x7 HB.out GE390.out GE403.out) hb); (try clear hb); (try clear hb2); (try clear hk); (try clear hi); obtain ⟨hcz28_0, hcz28_1, hcz28_2, hfz28_0, hfz28_1, hfz28_2⟩ := cf3x7 BK403.out) | ((with_reducible refine gate_callee (f := 10) rfl ?_); refine goesL_ (some 87) rfl rfl Try.func10 (by kernel_rfl) rfl #[.agg #[.int .i64 t399, .int .i64 t400, .bool t401], .int .i64 t402] rfl mpx7 ?_; (with_reducible refine (spec_MeanReady.calls k t399 t400 t401 t402 t407 t408 t409 _ A9.out).mono ?_); rintro e w29 ⟨rfl, hb⟩; refine ⟨_, rfl, ?_⟩; replace HO393 := Aside0.mk (Kd.R_below (rRx7 HO393.out) hb); replace HO397 := Aside0.mk (Kd.R_below (rRx7 HO397.out) hb); replace BK390 := Aside0.mk (blk_below (rBx7 BK390.out) hb); replace BK403 := Aside0.mk (blk_below (rBx7 BK403.out) hb); replace HB := Aside0.mk (below_step (be2x7 HB.out GE390.out GE403.out) hb); (try clear hb); (try clear hb2); (try clear hk); (try clear hi); obtain ⟨hcz30_0, hcz30_1, hcz30_2, hfz30_0, hfz30_1, hfz30_2⟩ := cf3x7 BK403.out) | ((with_reducible refine gate_callee (f := 11) rfl ?_); refine goesL_ (some 94) rfl rfl Try.func11 (by kernel_rfl) rfl #[.agg #[.int .i64 t399, .int .i64 t400, .bool t401], .int .i64 t402] rfl mpx7 ?_; (with_reducible refine (impl_ReadyChance.calls k t399 t400 t401 t402 t410 t411 t412 _ A10.out).mono ?_); rintro e w31 ⟨rfl, hb⟩; refine ⟨_, rfl, ?_⟩; replace HO393 := Aside0.mk (Kd.R_below (rRx7 HO393.out) hb); replace HO397 := Aside0.mk (Kd.R_below (rRx7 HO397.out) hb); replace BK390 := Aside0.mk (blk_below (rBx7 BK390.out) hb); replace BK403 := Aside0.mk (blk_below (rBx7 BK403.out) hb); replace HB := Aside0.mk (below_step (be2x7 HB.out GE390.out GE403.out) hb); (try clear hb); (try clear hb2); (try clear hk); (try clear hi); obtain ⟨hcz32_0, hcz32_1, hcz32_2, hfz32_0, hfz32_1, hfz32_2⟩ := cf3x7 BK403.out) | ((with_reducible refine gate_callee (f := 12) rfl ?_); refine goesL_ (some 101) rfl rfl Try.func12 (by kernel_rfl) rfl #[.agg #[.int .i64 t399, .int .i64 t400, .bool t401], .int .i64 t402] rfl mpx7 ?_; (with_reducible refine (spec_ReadyChance.calls k t399 t400 t401 t402 t413 t414 t415 _ A11.out).mono ?_); rintro e w33 ⟨rfl, hb⟩; refine ⟨_, rfl, ?_⟩; replace HO393 := Aside0.mk (Kd.R_below (rRx7 HO393.out) hb); replace HO397 := Aside0.mk (Kd.R_below (rRx7 HO397.out) hb); replace BK390 := Aside0.mk (blk_below (rBx7 BK390.out) hb); replace BK403 := Aside0.mk (blk_below (rBx7 BK403.out) hb); replace HB := Aside0.mk (below_step (be2x7 HB.out GE390.out GE403.out) hb); (try clear hb); (try clear hb2); (try clear hk); (try clear hi)) | ((with_reducible refine gate_callee (f := 13) rfl ?_); refine goesL_ (some 107) rfl rfl Try.func13 (by kernel_rfl) rfl #[.slice A1 l1.length c1] rfl mpx7 ?_; (with_reducible refine (spec_DrawNumberFor.calls k _ _ l1 t416 t417 _ ?side1 ?side2 A12.out).mono ?_); (case side1 => exact rCx7 (Kd.C_below HR1.out HB.out)); (case side2 => exact HC1.out); rintro e w34 ⟨v418, rfl, ho0, hb⟩; refine ⟨_, rfl, ?_⟩; replace HO393 := Aside0.mk (Kd.R_below (rRx7 HO393.out) hb); replace HO397 := Aside0.mk (Kd.R_below (rRx7 HO397.out) hb); have HO419 := Aside0.mk (Kd.R_lower ho0 (below_size (be2x7 HB.out GE390.out GE403.out))); replace BK390 := Aside0.mk (blk_below (rBx7 BK390.out) hb); replace BK403 := Aside0.mk (blk_below (rBx7 BK403.out) hb); replace HB := Aside0.mk (below_step (be2x7 HB.out GE390.out GE403.out) hb); (try clear hb); (try clear hb2); (try clear hk); (try clear hi); (try clear ho0); obtain ⟨Ao35, co35, eo35⟩ := Kd.R_slice HO419.out; subst eo35) | ((with_reducible refine gate_callee (f := 14) rfl ?_); refine goesL_ (some 113) rfl rfl Try.func14 (by kernel_rfl) rfl #[.slice Ao35 t416.length co35, .int .i64 t417] rfl mpx7 ?_; (with_reducible refine (impl_NumberFor.calls k _ _ t416 t417 t420 t421 _ ?side1 ?side2 A13.out).mono ?_); (case side1 => exact cRx7 HO419.out); (case side2 => exact (Kd.R_reads' HO419.out).2.1); rintro e w36 ⟨rfl, hb⟩; refine ⟨_, rfl, ?_⟩; replace HO393 := Aside0.mk (Kd.R_below (rRx7 HO393.out) hb); replace HO397 := Aside0.mk (Kd.R_below (rRx7 HO397.out) hb); replace HO419 := Aside0.mk (Kd.R_below (rRx7 HO419.out) hb); replace BK390 := Aside0.mk (blk_below (rBx7 BK390.out) hb); replace BK403 := Aside0.mk (blk_below (rBx7 BK403.out) hb); replace HB := Aside0.mk (below_step (be2x7 HB.out GE390.out GE403.out) hb); (try clear hb); (try clear hb2); (try clear hk); (try clear hi)) | ((with_reducible refine gate_callee (f := 15) rfl ?_); refine goesL_ (some 119) rfl rfl Try.func15 (by kernel_rfl) rfl #[.slice Ao35 t416.length co35, .int .i64 t417] rfl mpx7 ?_; (with_reducible refine (spec_NumberFor.calls k _ _ t416 t417 t422 t423 _ ?side1 ?side2 A14.out).mono ?_); (case side1 => exact cRx7 HO419.out); (case side2 => exact (Kd.R_reads' HO419.out).2.1); rintro e w37 ⟨rfl, hb⟩; refine ⟨_, rfl, ?_⟩; replace HO393 := Aside0.mk (Kd.R_below (rRx7 HO393.out) hb); replace HO397 := Aside0.mk (Kd.R_below (rRx7 HO397.out) hb); replace HO419 := Aside0.mk (Kd.R_below (rRx7 HO419.out) hb); replace BK390 := Aside0.mk (blk_below (rBx7 BK390.out) hb); replace BK403 := Aside0.mk (blk_below (rBx7 BK403.out) hb); replace HB := Aside0.mk (below_step (be2x7 HB.out GE390.out GE403.out) hb); (try clear hb); (try clear hb2); (try clear hk); (try clear hi)) | ((with_reducible refine gate_callee (f := 16) rfl ?_); refine goesL_ (some 124) rfl rfl Try.func16 (by kernel_rfl) rfl #[.slice Ao35 t416.length co35] rfl mpx7 ?_; (with_reducible refine (impl_MixOf.calls k _ _ t416 t424 t425 _ ?side1 ?side2 A15.out).mono ?_); (case side1 => exact cRx7 HO419.out); (case side2 => exact (Kd.R_reads' HO419.out).2.1); rintro e w38 ⟨rfl, hb⟩; refine ⟨_, rfl, ?_⟩; replace HO393 := Aside0.mk (Kd.R_below (rRx7 HO393.out) hb); replace HO397 := Aside0.mk (Kd.R_below (rRx7 HO397.out) hb); replace HO419 := Aside0.mk (Kd.R_below (rRx7 HO419.out) hb); replace BK390 := Aside0.mk (blk_below (rBx7 BK390.out) hb); replace BK403 := Aside0.mk (blk_below (rBx7 BK403.out) hb); replace HB := Aside0.mk (below_step (be2x7 HB.out GE390.out GE403.out) hb); (try clear hb); (try clear hb2); (try clear hk); (try clear hi)))
  (try simp only [Act.put, List.setIfInBounds_toArray, List.set_cons_zero, List.set_cons_succ])
  go_cut [34, 35] (fun v34 v35 wc => ∃ (kq : Nat) (x34_15 : Int) (x35_15 : Bool), v34 = .int .i64 x34_15 ∧ v35 = .bool x35_15 ∧ Aside0 (laws_FnMachines.j0 kq t389 t391 t394 t395 t398 t402 t404 t405 t406 t407 t408 t409 t410 t411 t412 t413 t414 t415 t417 t420 t421 t422 t423 t424 t425 x34_15 x35_15 t385 t386 t387 t399 t400 t401 = some r) ∧ Aside0 (kq ≤ k) ∧ Aside0 (Kd.R Kd.bool 4 wc w.heap.size (fun k_ => some k_ ≠ (v396 : Value).ownBlock) v392 t391) ∧ Aside0 (Kd.R Kd.bool 4 wc w.heap.size (fun k_ => some k_ ≠ (v392 : Value).ownBlock) v396 t395) ∧ Aside0 (wc.heap[gb390]? = some (.cells #[.int .i64 t385, .int .i64 t386, .bool t387] 24 (0, 0))) ∧ Aside0 (wc.heap[gb403]? = some (.cells #[.int .i64 t399, .int .i64 t400, .bool t401] 24 (0, 0))) ∧ Aside0 (Below w.heap.size w wc))
  case first =>
   as_aux_lemma =>
   have H := HC16.out
   clear HC16
   replace H := Option.bind_eq_some_iff.mp H
   obtain ⟨⟨t426, t427⟩, A390, H⟩ := H
   (try dsimp only at H)
   have A39 := Aside0.mk A390
   clear A390
   as_aux_lemma =>
    have H' := Aside0.mk H
    clear H
    go_wp2_with (first | ((with_reducible refine gate_callee (f := 17) rfl ?_); refine goesL_ (some 129) rfl rfl Try.func17 (by kernel_rfl) rfl #[.slice Ao35 t416.length co35] rfl mpx7 ?_; (with_reducible refine (spec_MixOf.calls k _ _ t416 t426 t427 _ ?side1 ?side2 A39.out).mono ?_); (case side1 => exact cRx7 HO419.out); (case side2 => exact (Kd.R_reads' HO419.out).2.1); rintro e w40 ⟨rfl, hb⟩; refine ⟨_, rfl, ?_⟩; replace HO393 := Aside0.mk (Kd.R_below (rRx7 HO393.out) hb); replace HO397 := Aside0.mk (Kd.R_below (rRx7 HO397.out) hb); replace HO419 := Aside0.mk (Kd.R_below (rRx7 HO419.out) hb); replace BK390 := Aside0.mk (blk_below (rBx7 BK390.out) hb); replace BK403 := Aside0.mk (blk_below (rBx7 BK403.out) hb); replace HB := Aside0.mk (below_step (be2x7 HB.out GE390.out GE403.out) hb); (try clear hb); (try clear hb2); (try clear hk); (try clear hi)))
    go_meet
    case rel => exact ⟨_, (t426), (t427), (by first | rfl | (simp; done) | (simp [*]; done)), (by first | rfl | (simp; done) | (simp [*]; done)), H', ⟨by first | omega | exact Nat.le_refl _⟩, ⟨by exact rRx7 (Kd.R_mono HO393.out (fun _ hk => hk.2))⟩, ⟨by exact rRx7 (Kd.R_mono HO397.out (fun _ hk => hk.2))⟩, ⟨rBx7 BK390.out⟩, ⟨rBx7 BK403.out⟩, ⟨be2x7 HB.out GE390.out GE403.out⟩⟩
  case rest =>
   as_aux_lemma =>
   clear HC16
   try clear c1; try clear c3; try clear c3b0; try clear hcz19_0 hcz19_1 hcz19_2; try clear hcz21_0 hcz21_1 hcz21_2; try clear hcz26_0 hcz26_1 hcz26_2; try clear hcz28_0 hcz28_1 hcz28_2; try clear hcz30_0 hcz30_1 hcz30_2; try clear hcz32_0 hcz32_1 hcz32_2; try clear hfz19_0 hfz19_1 hfz19_2; try clear hfz21_0 hfz21_1 hfz21_2; try clear hfz26_0 hfz26_1 hfz26_2; try clear hfz28_0 hfz28_1 hfz28_2; try clear hfz30_0 hfz30_1 hfz30_2; try clear hfz32_0 hfz32_1 hfz32_2
   obtain ⟨kq, x34_15, x35_15, rfl, rfl, HA, HJ15, HO_8, HO_10, BK390, BK403, HB⟩ := hcut
   cases kq with
   | zero => exact absurd HA.out (by simp [laws_FnMachines.j0])
   | succ kj15 =>
    have H := HA.out
    clear HA
    simp only [laws_FnMachines.j0] at H
    have HC41 := Aside0.mk H
    clear H
    go_upto_region 16 with (fail)
    go_cut [209] (fun v209 wc => ∃ (kq : Nat) (x209_40 : Bool), v209 = .bool x209_40 ∧ Aside0 (laws_FnMachines.j1 kq t389 t391 t394 t395 t402 t406 t407 t408 t412 t413 t414 x209_40 t385 t386 t387 t399 t400 t401 = some r) ∧ Aside0 (kq ≤ kj15) ∧ Aside0 (Kd.R Kd.bool 4 wc w.heap.size (fun k_ => some k_ ≠ (v396 : Value).ownBlock) v392 t391) ∧ Aside0 (Kd.R Kd.bool 4 wc w.heap.size (fun k_ => some k_ ≠ (v392 : Value).ownBlock) v396 t395) ∧ Aside0 (wc.heap[gb390]? = some (.cells #[.int .i64 t385, .int .i64 t386, .bool t387] 24 (0, 0))) ∧ Aside0 (wc.heap[gb403]? = some (.cells #[.int .i64 t399, .int .i64 t400, .bool t401] 24 (0, 0))) ∧ Aside0 (Below w.heap.size w wc))
    case first =>
     as_aux_lemma =>
     have H := HC41.out
     clear HC41
     by_cases c42 : (t394 != t398) = true
     ·rw [if_pos c42] at H
      have c42b0 : (t394 != t398) = true := c42
      (try (have c42b1 : decide (t394 = t398) = false := by simpa using c42))
      (try (have c42b2 : (t394 == t398) = false := by simpa using c42))
      (try (have c42b3 : ¬ (t394 = t398) := by simpa using c42))
      clear c42
      (first | rw [c42b0] | (simp only [i64_w, i32_w]; rw [c42b0]) | skip)
      exact absurd (H.trans (congrArg some hrt.out)) (by generalize kj15 = k_; cases k_ <;> simp [laws_FnMachines.j1])
     ·rw [if_neg c42] at H
      have c42b0 : (t394 != t398) = false := by simpa using c42
      (try (have c42b1 : decide (t394 = t398) = true := by simpa using c42))
      (try (have c42b2 : (t394 == t398) = true := by simpa using c42))
      clear c42
      (first | rw [c42b0] | (simp only [i64_w, i32_w]; rw [c42b0]) | skip)
      replace H := Option.bind_eq_some_iff.mp H
      obtain ⟨t428, A430, H⟩ := H
      have A43 := Aside0.mk A430
      clear A430
      by_cases c44 : t428 = true
      ·subst c44
       have H1 : (if (t406 != t409) = true then (laws_FnMachines.j1 kj15 t389 t391 t394 t395 t402 t406 t407 t408 t412 t413 t414 true t385 t386 t387 t399 t400 t401) else (if t404 = t407 then (if t405 = t408 then (if (t412 != t415) = true then (laws_FnMachines.j1 kj15 t389 t391 t394 t395 t402 t406 t407 t408 t412 t413 t414 true t385 t386 t387 t399 t400 t401) else (if t410 = t413 then (if t411 = t414 then (if (t421 != t423) = true then (laws_FnMachines.j1 kj15 t389 t391 t394 t395 t402 t406 t407 t408 t412 t413 t414 true t385 t386 t387 t399 t400 t401) else (if t420 = t422 then (if (t425 != x35_15) = true then (laws_FnMachines.j1 kj15 t389 t391 t394 t395 t402 t406 t407 t408 t412 t413 t414 true t385 t386 t387 t399 t400 t401) else (if t424 = x34_15 then ((impl_IsMachine.f t385 t386 t387).bind fun t429 => ((spec_IsMachine.f t385 t386 t387).bind fun t430 => (if (t429 != t430) = true then (laws_FnMachines.j1 kj15 t389 t391 t394 t395 t402 t406 t407 t408 t412 t413 t414 true t385 t386 t387 t399 t400 t401) else (if t421 = true then (if t422 < 0 then (laws_FnMachines.j1 kj15 t389 t391 t394 t395 t402 t406 t407 t408 t412 t413 t414 true t385 t386 t387 t399 t400 t401) else (laws_FnMachines.j1 kj15 t389 t391 t394 t395 t402 t406 t407 t408 t412 t413 t414 (decide (t422 ≥ t417)) t385 t386 t387 t399 t400 t401)) else (laws_FnMachines.j1 kj15 t389 t391 t394 t395 t402 t406 t407 t408 t412 t413 t414 false t385 t386 t387 t399 t400 t401))))) else (laws_FnMachines.j1 kj15 t389 t391 t394 t395 t402 t406 t407 t408 t412 t413 t414 true t385 t386 t387 t399 t400 t401))) else (laws_FnMachines.j1 kj15 t389 t391 t394 t395 t402 t406 t407 t408 t412 t413 t414 true t385 t386 t387 t399 t400 t401))) else (laws_FnMachines.j1 kj15 t389 t391 t394 t395 t402 t406 t407 t408 t412 t413 t414 true t385 t386 t387 t399 t400 t401)) else (laws_FnMachines.j1 kj15 t389 t391 t394 t395 t402 t406 t407 t408 t412 t413 t414 true t385 t386 t387 t399 t400 t401))) else (laws_FnMachines.j1 kj15 t389 t391 t394 t395 t402 t406 t407 t408 t412 t413 t414 true t385 t386 t387 t399 t400 t401)) else (laws_FnMachines.j1 kj15 t389 t391 t394 t395 t402 t406 t407 t408 t412 t413 t414 true t385 t386 t387 t399 t400 t401))) = some r := by rw [if_pos rfl] at H; exact H
       clear H
       have H := H1
       clear H1
       by_cases c45 : (t406 != t409) = true
       ·rw [if_pos c45] at H
        have c45b0 : (t406 != t409) = true := c45
        (try (have c45b1 : decide (t406 = t409) = false := by simpa using c45))
        (try (have c45b2 : (t406 == t409) = false := by simpa using c45))
        (try (have c45b3 : ¬ (t406 = t409) := by simpa using c45))
        clear c45
        exact absurd (H.trans (congrArg some hrt.out)) (by generalize kj15 = k_; cases k_ <;> simp [laws_FnMachines.j1])
       ·rw [if_neg c45] at H
        have c45b0 : (t406 != t409) = false := by simpa using c45
        (try (have c45b1 : decide (t406 = t409) = true := by simpa using c45))
        (try (have c45b2 : (t406 == t409) = true := by simpa using c45))
        clear c45
        by_cases c46 : t404 = t407
        ·rw [if_pos c46] at H
         have c46b0 : (t404 == t407) = true := beq_iff_eq.mpr c46
         have c46b1 : (t404 != t407) = false := bne_eq_false_iff_eq.mpr c46
         clear c46
         by_cases c47 : t405 = t408
         ·rw [if_pos c47] at H
          have c47b0 : (t405 == t408) = true := beq_iff_eq.mpr c47
          have c47b1 : (t405 != t408) = false := bne_eq_false_iff_eq.mpr c47
          clear c47
          by_cases c48 : (t412 != t415) = true
          ·rw [if_pos c48] at H
           have c48b0 : (t412 != t415) = true := c48
           (try (have c48b1 : decide (t412 = t415) = false := by simpa using c48))
           (try (have c48b2 : (t412 == t415) = false := by simpa using c48))
           (try (have c48b3 : ¬ (t412 = t415) := by simpa using c48))
           clear c48
           exact absurd (H.trans (congrArg some hrt.out)) (by generalize kj15 = k_; cases k_ <;> simp [laws_FnMachines.j1])
          ·rw [if_neg c48] at H
           have c48b0 : (t412 != t415) = false := by simpa using c48
           (try (have c48b1 : decide (t412 = t415) = true := by simpa using c48))
           (try (have c48b2 : (t412 == t415) = true := by simpa using c48))
           clear c48
           by_cases c49 : t410 = t413
           ·rw [if_pos c49] at H
            have c49b0 : (t410 == t413) = true := beq_iff_eq.mpr c49
            have c49b1 : (t410 != t413) = false := bne_eq_false_iff_eq.mpr c49
            clear c49
            by_cases c50 : t411 = t414
            ·rw [if_pos c50] at H
             have c50b0 : (t411 == t414) = true := beq_iff_eq.mpr c50
             have c50b1 : (t411 != t414) = false := bne_eq_false_iff_eq.mpr c50
             clear c50
             by_cases c51 : (t421 != t423) = true
             ·rw [if_pos c51] at H
              have c51b0 : (t421 != t423) = true := c51
              (try (have c51b1 : decide (t421 = t423) = false := by simpa using c51))
              (try (have c51b2 : (t421 == t423) = false := by simpa using c51))
              (try (have c51b3 : ¬ (t421 = t423) := by simpa using c51))
              clear c51
              exact absurd (H.trans (congrArg some hrt.out)) (by generalize kj15 = k_; cases k_ <;> simp [laws_FnMachines.j1])
             ·rw [if_neg c51] at H
              have c51b0 : (t421 != t423) = false := by simpa using c51
              (try (have c51b1 : decide (t421 = t423) = true := by simpa using c51))
              (try (have c51b2 : (t421 == t423) = true := by simpa using c51))
              clear c51
              by_cases c52 : t420 = t422
              ·rw [if_pos c52] at H
               have c52b0 : (t420 == t422) = true := beq_iff_eq.mpr c52
               have c52b1 : (t420 != t422) = false := bne_eq_false_iff_eq.mpr c52
               clear c52
               by_cases c53 : (t425 != x35_15) = true
               ·rw [if_pos c53] at H
                have c53b0 : (t425 != x35_15) = true := c53
                (try (have c53b1 : decide (t425 = x35_15) = false := by simpa using c53))
                (try (have c53b2 : (t425 == x35_15) = false := by simpa using c53))
                (try (have c53b3 : ¬ (t425 = x35_15) := by simpa using c53))
                clear c53
                exact absurd (H.trans (congrArg some hrt.out)) (by generalize kj15 = k_; cases k_ <;> simp [laws_FnMachines.j1])
               ·rw [if_neg c53] at H
                have c53b0 : (t425 != x35_15) = false := by simpa using c53
                (try (have c53b1 : decide (t425 = x35_15) = true := by simpa using c53))
                (try (have c53b2 : (t425 == x35_15) = true := by simpa using c53))
                clear c53
                by_cases c54 : t424 = x34_15
                ·rw [if_pos c54] at H
                 have c54b0 : (t424 == x34_15) = true := beq_iff_eq.mpr c54
                 have c54b1 : (t424 != x34_15) = false := bne_eq_false_iff_eq.mpr c54
                 clear c54
                 replace H := Option.bind_eq_some_iff.mp H
                 obtain ⟨t429, A550, H⟩ := H
                 have A55 := Aside0.mk A550
                 clear A550
                 replace H := Option.bind_eq_some_iff.mp H
                 obtain ⟨t430, A560, H⟩ := H
                 have A56 := Aside0.mk A560
                 clear A560
                 by_cases c57 : (t429 != t430) = true
                 ·rw [if_pos c57] at H
                  have c57b0 : (t429 != t430) = true := c57
                  (try (have c57b1 : decide (t429 = t430) = false := by simpa using c57))
                  (try (have c57b2 : (t429 == t430) = false := by simpa using c57))
                  (try (have c57b3 : ¬ (t429 = t430) := by simpa using c57))
                  clear c57
                  exact absurd (H.trans (congrArg some hrt.out)) (by generalize kj15 = k_; cases k_ <;> simp [laws_FnMachines.j1])
                 ·rw [if_neg c57] at H
                  have c57b0 : (t429 != t430) = false := by simpa using c57
                  (try (have c57b1 : decide (t429 = t430) = true := by simpa using c57))
                  (try (have c57b2 : (t429 == t430) = true := by simpa using c57))
                  clear c57
                  by_cases c58 : t421 = true
                  ·subst c58
                   have H1 : (if t422 < 0 then (laws_FnMachines.j1 kj15 t389 t391 t394 t395 t402 t406 t407 t408 t412 t413 t414 true t385 t386 t387 t399 t400 t401) else (laws_FnMachines.j1 kj15 t389 t391 t394 t395 t402 t406 t407 t408 t412 t413 t414 (decide (t422 ≥ t417)) t385 t386 t387 t399 t400 t401)) = some r := by rw [if_pos rfl] at H; exact H
                   clear H
                   have H := H1
                   clear H1
                   by_cases c59 : t422 < 0
                   ·rw [if_pos c59] at H
                    have c59b0 : decide (t422 < 0) = true := decide_eq_true c59
                    clear c59
                    exact absurd (H.trans (congrArg some hrt.out)) (by generalize kj15 = k_; cases k_ <;> simp [laws_FnMachines.j1])
                   ·rw [if_neg c59] at H
                    have c59b0 : decide (t422 < 0) = false := decide_eq_false c59
                    clear c59
                    as_aux_lemma =>
                     have H' := Aside0.mk H
                     clear H
                     try go_wp2
                     replace HO_8 := Aside0.mk (Kd.R_drew HO_8.out)
                     replace HO_10 := Aside0.mk (Kd.R_drew HO_10.out)
                     replace BK390 := Aside0.mk (blk_drew BK390.out)
                     replace BK403 := Aside0.mk (blk_drew BK403.out)
                     replace HB := Aside0.mk (below_drew1 HB.out)
                     obtain ⟨Ao61, co61, eo61⟩ := Kd.R_slice HO_8.out
                     (first | subst eo61 | (injection eo61 with f1_ f2_ f3_; have f4_ := f1_.symm; have f5_ := f3_.symm; clear f1_ f2_ f3_; subst f4_; subst f5_))
                     obtain ⟨Ao62, co62, eo62⟩ := Kd.R_slice HO_10.out
                     (first | subst eo62 | (injection eo62 with f1_ f2_ f3_; have f4_ := f1_.symm; have f5_ := f3_.symm; clear f1_ f2_ f3_; subst f4_; subst f5_))
                     refine start_ (n := 78) (S := fun w' => w'.cell? ⟨gb390, 0, none⟩ = some (.int .i64 t385) ∧ w'.cell? ⟨gb390, 1, none⟩ = some (.int .i64 t386) ∧ w'.cell? ⟨gb390, 2, none⟩ = some (.bool t387)) (ds := []) (tf_ 0 78) (by kernel_rfl) rfl rfl (cc3x7 BK390.out) (fun hHeld => ?_); refine with_tabW laws_FnMachines.tab16 laws_FnMachines.bits16 (fun HT_ HW_ => ?_)
                     generalize wc.drew = w60 at HO_8 HO_10 BK390 BK403 HB hHeld ⊢
                     refine pv_ 0 132 (tf_ 1 78) HT_ ?_
                     refine pv_ 1 133 (tf_ 2 78) HT_ ?_
                     refine pv_ 2 134 (tf_ 3 78) HT_ ?_
                     refine pv_ 3 135 (tf_ 4 78) HT_ ?_
                     refine pv_ 4 136 (tf_ 5 78) HT_ ?_
                     refine pv_ 5 137 (tf_ 6 78) HT_ ?_
                     refine one_ (i := 6) (N := some 138) (tf_ 7 78) rfl rfl (one_of HT_.out (by kernel_rfl)) (by decide) (fun K hK => ?_)
                     refine goes_ Try.func18 (by kernel_rfl) rfl #[.slice Ao61 t391.length co61, .slice Ao62 t395.length co62] (by rfl) rfl rfl mpx7 ?_
                     with_reducible refine (laws_qBools.calls kj15 _ _ t391 _ _ t395 true _ ?side1 ?side2 ?side3 ?side4 A43.out).mono ?_
                     (case side1 => exact cRx7 HO_8.out)
                     (case side2 => exact (Kd.R_reads' HO_8.out).2.1)
                     (case side3 => exact cRx7 HO_10.out)
                     (case side4 => exact (Kd.R_reads' HO_10.out).2.1)
                     rintro e w' ⟨rfl, ⟨nd, rfl⟩⟩
                     refine ⟨_, rfl, ?_⟩
                     refine hK.out _ _ (cc3x7 BK390.out) (fun hHeld => ?_)
                     clear hK K
                     refine norm_ (a' := ?_) ?_ ?_
                     rotate_left
                     ·show Act.put _ (some 138) _ = _
                      simp only [Act.put, List.setIfInBounds_toArray, List.set_cons_zero, List.set_cons_succ, i64_w, i32_w]
                      rfl
                     refine pv_ 7 139 (tf_ 8 78) HT_ ?_
                     refine pv_ 8 140 (tf_ 9 78) HT_ ?_
                     refine pv_ 9 141 (tf_ 10 78) HT_ ?_
                     refine pv_ 10 142 (tf_ 11 78) HT_ ?_
                     refine pv_ 11 143 (tf_ 12 78) HT_ ?_
                     refine pv_ 12 144 (tf_ 13 78) HT_ ?_
                     refine pv_ 13 145 (tf_ 14 78) HT_ ?_
                     refine pv_ 14 146 (tf_ 15 78) HT_ ?_
                     refine pv_ 15 147 (tf_ 16 78) HT_ ?_
                     refine pv_ 16 148 (tf_ 17 78) HT_ ?_
                     refine pv_ 17 149 (tf_ 18 78) HT_ ?_
                     refine pv_ 18 150 (tf_ 19 78) HT_ ?_
                     refine pv_ 19 151 (tf_ 20 78) HT_ ?_
                     refine pv_ 20 152 (tf_ 21 78) HT_ ?_
                     refine pv_ 21 153 (tf_ 22 78) HT_ ?_
                     refine pv_ 22 154 (tf_ 23 78) HT_ ?_
                     refine pv_ 23 155 (tf_ 24 78) HT_ ?_
                     refine pv_ 24 156 (tf_ 25 78) HT_ ?_
                     refine pv_ 25 157 (tf_ 26 78) HT_ ?_
                     refine pv_ 26 158 (tf_ 27 78) HT_ ?_
                     refine pv_ 27 159 (tf_ 28 78) HT_ ?_
                     refine pv_ 28 160 (tf_ 29 78) HT_ ?_
                     refine pv_ 29 161 (tf_ 30 78) HT_ ?_
                     refine pv_ 30 162 (tf_ 31 78) HT_ ?_
                     refine pv_ 31 163 (tf_ 32 78) HT_ ?_
                     refine pv_ 32 164 (tf_ 33 78) HT_ ?_
                     refine pv_ 33 165 (tf_ 34 78) HT_ ?_
                     refine pv_ 34 166 (tf_ 35 78) HT_ ?_
                     refine pv_ 35 167 (tf_ 36 78) HT_ ?_
                     refine pv_ 36 168 (tf_ 37 78) HT_ ?_
                     refine pv_ 37 169 (tf_ 38 78) HT_ ?_
                     refine pv_ 38 170 (tf_ 39 78) HT_ ?_
                     refine pv_ 39 171 (tf_ 40 78) HT_ ?_
                     refine pv_ 40 172 (tf_ 41 78) HT_ ?_
                     refine pv_ 41 173 (tf_ 42 78) HT_ ?_
                     refine pv_ 42 174 (tf_ 43 78) HT_ ?_
                     refine pv_ 43 175 (tf_ 44 78) HT_ ?_
                     refine pv_ 44 176 (tf_ 45 78) HT_ ?_
                     refine pv_ 45 177 (tf_ 46 78) HT_ ?_
                     refine pv_ 46 178 (tf_ 47 78) HT_ ?_
                     refine pv_ 47 179 (tf_ 48 78) HT_ ?_
                     refine pv_ 48 180 (tf_ 49 78) HT_ ?_
                     refine pv_ 49 181 (tf_ 50 78) HT_ ?_
                     refine pv_ 50 182 (tf_ 51 78) HT_ ?_
                     refine pv_ 51 183 (tf_ 52 78) HT_ ?_
                     refine pv_ 52 184 (tf_ 53 78) HT_ ?_
                     refine pv_ 53 185 (tf_ 54 78) HT_ ?_
                     refine pv_ 54 186 (tf_ 55 78) HT_ ?_
                     refine pv_ 55 187 (tf_ 56 78) HT_ ?_
                     refine pv_ 56 188 (tf_ 57 78) HT_ ?_
                     refine pv_ 57 189 (tf_ 58 78) HT_ ?_
                     refine pv_ 58 190 (tf_ 59 78) HT_ ?_
                     refine pv_ 59 191 (tf_ 60 78) HT_ ?_
                     refine take_ (i := 60) (N := some 192) (v := ?_) (a' := ?_) (tf_ 61 78) rfl rfl (take_ofW HT_.out HW_.out (by kernel_rfl)) (fun _ _ _ h => h) (Or.inl ⟨by rfl, ?_⟩) hHeld ?_ ?_
                     rotate_left
                     ·rintro w' ⟨s0, s1, s2⟩
                      go_simp
                      with_reducible rfl
                     rotate_left
                     ·simp only [Act.put, List.setIfInBounds_toArray, List.set_cons_zero, List.set_cons_succ, i64_w, i32_w]
                      rfl
                     refine take_ (i := 62) (N := some 194) (v := ?_) (a' := ?_) #[true, true, true, true, true, true, true, true, true, true, true, true, true, true, true, true, true, true, true, true, true, true, true, true, true, true, true, true, true, true, true, true, true, true, true, true, true, true, true, true, true, true, true, true, true, true, true, true, true, true, true, true, true, true, true, true, true, true, true, true, true, false, true, false, false, false, false, false, false, false, false, false, false, false, false, false, false, false] rfl rfl (take_ofW HT_.out HW_.out (by kernel_rfl)) (fun _ _ _ h => h) (Or.inl ⟨by rfl, ?_⟩) hHeld ?_ ?_
                     rotate_left
                     ·rintro w' ⟨s0, s1, s2⟩
                      go_simp
                      with_reducible rfl
                     rotate_left
                     ·simp only [Act.put, List.setIfInBounds_toArray, List.set_cons_zero, List.set_cons_succ, i64_w, i32_w]
                      rfl
                     refine one_ (i := 61) (N := some 193) (tf_ 63 78) rfl rfl (one_of HT_.out (by kernel_rfl)) (by decide) (fun K hK => ?_)
                     refine goes_ Try.func19 (by kernel_rfl) rfl #[.agg #[.int .i64 t385, .int .i64 t386, .bool t387]] (by rfl) rfl rfl mpx7 ?_
                     with_reducible refine (impl_IsMachine.calls t385 t386 t387 t429 _ A55.out).mono ?_
                     rintro e w63 ⟨rfl, hb⟩
                     refine ⟨_, rfl, ?_⟩
                     replace HO_8 := Aside0.mk (Kd.R_below (rRx7 HO_8.out) hb)
                     replace HO_10 := Aside0.mk (Kd.R_below (rRx7 HO_10.out) hb)
                     replace BK390 := Aside0.mk (blk_below (rBx7 BK390.out) hb)
                     replace BK403 := Aside0.mk (blk_below (rBx7 BK403.out) hb)
                     replace HB := Aside0.mk (below_step (be2x7 HB.out GE390.out GE403.out) hb)
                     (try clear hb)
                     (try clear hb2)
                     (try clear hk)
                     (try clear hi)
                     refine hK.out _ _ (cc3x7 BK390.out) (fun hHeld => ?_)
                     clear hK K
                     refine norm_ (a' := ?_) ?_ ?_
                     rotate_left
                     ·show Act.put _ (some 193) _ = _
                      simp only [Act.put, List.setIfInBounds_toArray, List.set_cons_zero, List.set_cons_succ, i64_w, i32_w]
                      rfl
                     refine one_ (i := 63) (N := some 195) (tf_ 64 78) rfl rfl (one_of HT_.out (by kernel_rfl)) (by decide) (fun K hK => ?_)
                     refine goes_ Try.func20 (by kernel_rfl) rfl #[.agg #[.int .i64 t385, .int .i64 t386, .bool t387]] (by rfl) rfl rfl mpx7 ?_
                     with_reducible refine (spec_IsMachine.calls t385 t386 t387 t430 _ A56.out).mono ?_
                     rintro e w64 ⟨rfl, hb⟩
                     refine ⟨_, rfl, ?_⟩
                     replace HO_8 := Aside0.mk (Kd.R_below (rRx7 HO_8.out) hb)
                     replace HO_10 := Aside0.mk (Kd.R_below (rRx7 HO_10.out) hb)
                     replace BK390 := Aside0.mk (blk_below (rBx7 BK390.out) hb)
                     replace BK403 := Aside0.mk (blk_below (rBx7 BK403.out) hb)
                     replace HB := Aside0.mk (below_step (be2x7 HB.out GE390.out GE403.out) hb)
                     (try clear hb)
                     (try clear hb2)
                     (try clear hk)
                     (try clear hi)
                     refine hK.out _ _ (cc3x7 BK390.out) (fun hHeld => ?_)
                     clear hK K
                     refine norm_ (a' := ?_) ?_ ?_
                     rotate_left
                     ·show Act.put _ (some 195) _ = _
                      simp only [Act.put, List.setIfInBounds_toArray, List.set_cons_zero, List.set_cons_succ, i64_w, i32_w]
                      rfl
                     refine pv_ 64 196 (tf_ 65 78) HT_ ?_
                     refine pv_ 65 197 (tf_ 66 78) HT_ ?_
                     refine pv_ 66 198 (tf_ 67 78) HT_ ?_
                     refine pv_ 67 199 (tf_ 68 78) HT_ ?_
                     refine pv_ 68 200 (tf_ 69 78) HT_ ?_
                     refine pv_ 69 201 (tf_ 70 78) HT_ ?_
                     refine pv_ 70 202 (tf_ 71 78) HT_ ?_
                     refine pv_ 71 203 (tf_ 72 78) HT_ ?_
                     refine pv_ 72 204 (tf_ 73 78) HT_ ?_
                     refine pv_ 73 205 (tf_ 74 78) HT_ ?_
                     refine pv_ 74 206 (tf_ 75 78) HT_ ?_
                     refine pv_ 75 207 (tf_ 76 78) HT_ ?_
                     refine pv_ 76 208 (tf_ 77 78) HT_ ?_
                     refine pv_ 77 209 (tf_ 78 78) HT_ ?_
                     refine done_ (done_of HT_.out (by kernel_rfl)) ?_
                     try go_wp2
                     go_meet
                     case rel => exact ⟨_, (decide (t422 ≥ t417)), (by first | rfl | (simp; done) | (simp [*]; done)), H', ⟨by have := HJ15.out; first | omega | exact Nat.le_refl _⟩, ⟨rRx7 HO_8.out⟩, ⟨rRx7 HO_10.out⟩, ⟨rBx7 BK390.out⟩, ⟨rBx7 BK403.out⟩, ⟨be2x7 HB.out GE390.out GE403.out⟩⟩
                  ·replace c58 := Bool.eq_false_iff.mpr c58
                   subst c58
                   have H1 : (laws_FnMachines.j1 kj15 t389 t391 t394 t395 t402 t406 t407 t408 t412 t413 t414 false t385 t386 t387 t399 t400 t401) = some r := by rw [if_neg (show ¬ (false = true) by decide)] at H; exact H
                   clear H
                   have H := H1
                   clear H1
                   as_aux_lemma =>
                    have H' := Aside0.mk H
                    clear H
                    try go_wp2
                    replace HO_8 := Aside0.mk (Kd.R_drew HO_8.out)
                    replace HO_10 := Aside0.mk (Kd.R_drew HO_10.out)
                    replace BK390 := Aside0.mk (blk_drew BK390.out)
                    replace BK403 := Aside0.mk (blk_drew BK403.out)
                    replace HB := Aside0.mk (below_drew1 HB.out)
                    obtain ⟨Ao66, co66, eo66⟩ := Kd.R_slice HO_8.out
                    (first | subst eo66 | (injection eo66 with f1_ f2_ f3_; have f4_ := f1_.symm; have f5_ := f3_.symm; clear f1_ f2_ f3_; subst f4_; subst f5_))
                    obtain ⟨Ao67, co67, eo67⟩ := Kd.R_slice HO_10.out
                    (first | subst eo67 | (injection eo67 with f1_ f2_ f3_; have f4_ := f1_.symm; have f5_ := f3_.symm; clear f1_ f2_ f3_; subst f4_; subst f5_))
                    refine start_ (n := 78) (S := fun w' => w'.cell? ⟨gb390, 0, none⟩ = some (.int .i64 t385) ∧ w'.cell? ⟨gb390, 1, none⟩ = some (.int .i64 t386) ∧ w'.cell? ⟨gb390, 2, none⟩ = some (.bool t387)) (ds := []) (tf_ 0 78) (by kernel_rfl) rfl rfl (cc3x7 BK390.out) (fun hHeld => ?_); refine with_tabW laws_FnMachines.tab16 laws_FnMachines.bits16 (fun HT_ HW_ => ?_)
                    generalize wc.drew = w65 at HO_8 HO_10 BK390 BK403 HB hHeld ⊢
                    refine pv_ 0 132 (tf_ 1 78) HT_ ?_
                    refine pv_ 1 133 (tf_ 2 78) HT_ ?_
                    refine pv_ 2 134 (tf_ 3 78) HT_ ?_
                    refine pv_ 3 135 (tf_ 4 78) HT_ ?_
                    refine pv_ 4 136 (tf_ 5 78) HT_ ?_
                    refine pv_ 5 137 (tf_ 6 78) HT_ ?_
                    refine one_ (i := 6) (N := some 138) (tf_ 7 78) rfl rfl (one_of HT_.out (by kernel_rfl)) (by decide) (fun K hK => ?_)
                    refine goes_ Try.func18 (by kernel_rfl) rfl #[.slice Ao66 t391.length co66, .slice Ao67 t395.length co67] (by rfl) rfl rfl mpx7 ?_
                    with_reducible refine (laws_qBools.calls kj15 _ _ t391 _ _ t395 true _ ?side1 ?side2 ?side3 ?side4 A43.out).mono ?_
                    (case side1 => exact cRx7 HO_8.out)
                    (case side2 => exact (Kd.R_reads' HO_8.out).2.1)
                    (case side3 => exact cRx7 HO_10.out)
                    (case side4 => exact (Kd.R_reads' HO_10.out).2.1)
                    rintro e w' ⟨rfl, ⟨nd, rfl⟩⟩
                    refine ⟨_, rfl, ?_⟩
                    refine hK.out _ _ (cc3x7 BK390.out) (fun hHeld => ?_)
                    clear hK K
                    refine norm_ (a' := ?_) ?_ ?_
                    rotate_left
                    ·show Act.put _ (some 138) _ = _
                     simp only [Act.put, List.setIfInBounds_toArray, List.set_cons_zero, List.set_cons_succ, i64_w, i32_w]
                     rfl
                    refine pv_ 7 139 (tf_ 8 78) HT_ ?_
                    refine pv_ 8 140 (tf_ 9 78) HT_ ?_
                    refine pv_ 9 141 (tf_ 10 78) HT_ ?_
                    refine pv_ 10 142 (tf_ 11 78) HT_ ?_
                    refine pv_ 11 143 (tf_ 12 78) HT_ ?_
                    refine pv_ 12 144 (tf_ 13 78) HT_ ?_
                    refine pv_ 13 145 (tf_ 14 78) HT_ ?_
                    refine pv_ 14 146 (tf_ 15 78) HT_ ?_
                    refine pv_ 15 147 (tf_ 16 78) HT_ ?_
                    refine pv_ 16 148 (tf_ 17 78) HT_ ?_
                    refine pv_ 17 149 (tf_ 18 78) HT_ ?_
                    refine pv_ 18 150 (tf_ 19 78) HT_ ?_
                    refine pv_ 19 151 (tf_ 20 78) HT_ ?_
                    refine pv_ 20 152 (tf_ 21 78) HT_ ?_
                    refine pv_ 21 153 (tf_ 22 78) HT_ ?_
                    refine pv_ 22 154 (tf_ 23 78) HT_ ?_
                    refine pv_ 23 155 (tf_ 24 78) HT_ ?_
                    refine pv_ 24 156 (tf_ 25 78) HT_ ?_
                    refine pv_ 25 157 (tf_ 26 78) HT_ ?_
                    refine pv_ 26 158 (tf_ 27 78) HT_ ?_
                    refine pv_ 27 159 (tf_ 28 78) HT_ ?_
                    refine pv_ 28 160 (tf_ 29 78) HT_ ?_
                    refine pv_ 29 161 (tf_ 30 78) HT_ ?_
                    refine pv_ 30 162 (tf_ 31 78) HT_ ?_
                    refine pv_ 31 163 (tf_ 32 78) HT_ ?_
                    refine pv_ 32 164 (tf_ 33 78) HT_ ?_
                    refine pv_ 33 165 (tf_ 34 78) HT_ ?_
                    refine pv_ 34 166 (tf_ 35 78) HT_ ?_
                    refine pv_ 35 167 (tf_ 36 78) HT_ ?_
                    refine pv_ 36 168 (tf_ 37 78) HT_ ?_
                    refine pv_ 37 169 (tf_ 38 78) HT_ ?_
                    refine pv_ 38 170 (tf_ 39 78) HT_ ?_
                    refine pv_ 39 171 (tf_ 40 78) HT_ ?_
                    refine pv_ 40 172 (tf_ 41 78) HT_ ?_
                    refine pv_ 41 173 (tf_ 42 78) HT_ ?_
                    refine pv_ 42 174 (tf_ 43 78) HT_ ?_
                    refine pv_ 43 175 (tf_ 44 78) HT_ ?_
                    refine pv_ 44 176 (tf_ 45 78) HT_ ?_
                    refine pv_ 45 177 (tf_ 46 78) HT_ ?_
                    refine pv_ 46 178 (tf_ 47 78) HT_ ?_
                    refine pv_ 47 179 (tf_ 48 78) HT_ ?_
                    refine pv_ 48 180 (tf_ 49 78) HT_ ?_
                    refine pv_ 49 181 (tf_ 50 78) HT_ ?_
                    refine pv_ 50 182 (tf_ 51 78) HT_ ?_
                    refine pv_ 51 183 (tf_ 52 78) HT_ ?_
                    refine pv_ 52 184 (tf_ 53 78) HT_ ?_
                    refine pv_ 53 185 (tf_ 54 78) HT_ ?_
                    refine pv_ 54 186 (tf_ 55 78) HT_ ?_
                    refine pv_ 55 187 (tf_ 56 78) HT_ ?_
                    refine pv_ 56 188 (tf_ 57 78) HT_ ?_
                    refine pv_ 57 189 (tf_ 58 78) HT_ ?_
                    refine pv_ 58 190 (tf_ 59 78) HT_ ?_
                    refine pv_ 59 191 (tf_ 60 78) HT_ ?_
                    refine take_ (i := 60) (N := some 192) (v := ?_) (a' := ?_) (tf_ 61 78) rfl rfl (take_ofW HT_.out HW_.out (by kernel_rfl)) (fun _ _ _ h => h) (Or.inl ⟨by rfl, ?_⟩) hHeld ?_ ?_
                    rotate_left
                    ·rintro w' ⟨s0, s1, s2⟩
                     go_simp
                     with_reducible rfl
                    rotate_left
                    ·simp only [Act.put, List.setIfInBounds_toArray, List.set_cons_zero, List.set_cons_succ, i64_w, i32_w]
                     rfl
                    refine take_ (i := 62) (N := some 194) (v := ?_) (a' := ?_) #[true, true, true, true, true, true, true, true, true, true, true, true, true, true, true, true, true, true, true, true, true, true, true, true, true, true, true, true, true, true, true, true, true, true, true, true, true, true, true, true, true, true, true, true, true, true, true, true, true, true, true, true, true, true, true, true, true, true, true, true, true, false, true, false, false, false, false, false, false, false, false, false, false, false, false, false, false, false] rfl rfl (take_ofW HT_.out HW_.out (by kernel_rfl)) (fun _ _ _ h => h) (Or.inl ⟨by rfl, ?_⟩) hHeld ?_ ?_
                    rotate_left
                    ·rintro w' ⟨s0, s1, s2⟩
                     go_simp
                     with_reducible rfl
                    rotate_left
                    ·simp only [Act.put, List.setIfInBounds_toArray, List.set_cons_zero, List.set_cons_succ, i64_w, i32_w]
                     rfl
                    refine one_ (i := 61) (N := some 193) (tf_ 63 78) rfl rfl (one_of HT_.out (by kernel_rfl)) (by decide) (fun K hK => ?_)
                    refine goes_ Try.func19 (by kernel_rfl) rfl #[.agg #[.int .i64 t385, .int .i64 t386, .bool t387]] (by rfl) rfl rfl mpx7 ?_
                    with_reducible refine (impl_IsMachine.calls t385 t386 t387 t429 _ A55.out).mono ?_
                    rintro e w68 ⟨rfl, hb⟩
                    refine ⟨_, rfl, ?_⟩
                    replace HO_8 := Aside0.mk (Kd.R_below (rRx7 HO_8.out) hb)
                    replace HO_10 := Aside0.mk (Kd.R_below (rRx7 HO_10.out) hb)
                    replace BK390 := Aside0.mk (blk_below (rBx7 BK390.out) hb)
                    replace BK403 := Aside0.mk (blk_below (rBx7 BK403.out) hb)
                    replace HB := Aside0.mk (below_step (be2x7 HB.out GE390.out GE403.out) hb)
                    (try clear hb)
                    (try clear hb2)
                    (try clear hk)
                    (try clear hi)
                    refine hK.out _ _ (cc3x7 BK390.out) (fun hHeld => ?_)
                    clear hK K
                    refine norm_ (a' := ?_) ?_ ?_
                    rotate_left
                    ·show Act.put _ (some 193) _ = _
                     simp only [Act.put, List.setIfInBounds_toArray, List.set_cons_zero, List.set_cons_succ, i64_w, i32_w]
                     rfl
                    refine one_ (i := 63) (N := some 195) (tf_ 64 78) rfl rfl (one_of HT_.out (by kernel_rfl)) (by decide) (fun K hK => ?_)
                    refine goes_ Try.func20 (by kernel_rfl) rfl #[.agg #[.int .i64 t385, .int .i64 t386, .bool t387]] (by rfl) rfl rfl mpx7 ?_
                    with_reducible refine (spec_IsMachine.calls t385 t386 t387 t430 _ A56.out).mono ?_
                    rintro e w69 ⟨rfl, hb⟩
                    refine ⟨_, rfl, ?_⟩
                    replace HO_8 := Aside0.mk (Kd.R_below (rRx7 HO_8.out) hb)
                    replace HO_10 := Aside0.mk (Kd.R_below (rRx7 HO_10.out) hb)
                    replace BK390 := Aside0.mk (blk_below (rBx7 BK390.out) hb)
                    replace BK403 := Aside0.mk (blk_below (rBx7 BK403.out) hb)
                    replace HB := Aside0.mk (below_step (be2x7 HB.out GE390.out GE403.out) hb)
                    (try clear hb)
                    (try clear hb2)
                    (try clear hk)
                    (try clear hi)
                    refine hK.out _ _ (cc3x7 BK390.out) (fun hHeld => ?_)
                    clear hK K
                    refine norm_ (a' := ?_) ?_ ?_
                    rotate_left
                    ·show Act.put _ (some 195) _ = _
                     simp only [Act.put, List.setIfInBounds_toArray, List.set_cons_zero, List.set_cons_succ, i64_w, i32_w]
                     rfl
                    refine pv_ 64 196 (tf_ 65 78) HT_ ?_
                    refine pv_ 65 197 (tf_ 66 78) HT_ ?_
                    refine pv_ 66 198 (tf_ 67 78) HT_ ?_
                    refine pv_ 67 199 (tf_ 68 78) HT_ ?_
                    refine pv_ 68 200 (tf_ 69 78) HT_ ?_
                    refine pz_ 69 201 (tf_ 70 78) HT_ ?_
                    refine pz_ 70 202 (tf_ 71 78) HT_ ?_
                    refine pz_ 71 203 (tf_ 72 78) HT_ ?_
                    refine pz_ 72 204 (tf_ 73 78) HT_ ?_
                    refine pz_ 73 205 (tf_ 74 78) HT_ ?_
                    refine pz_ 74 206 (tf_ 75 78) HT_ ?_
                    refine pz_ 75 207 (tf_ 76 78) HT_ ?_
                    refine pv_ 76 208 (tf_ 77 78) HT_ ?_
                    refine pv_ 77 209 (tf_ 78 78) HT_ ?_
                    refine done_ (done_of HT_.out (by kernel_rfl)) ?_
                    try go_wp2
                    go_meet
                    case rel => exact ⟨_, (false), (by first | rfl | (simp; done) | (simp [*]; done)), H', ⟨by have := HJ15.out; first | omega | exact Nat.le_refl _⟩, ⟨rRx7 HO_8.out⟩, ⟨rRx7 HO_10.out⟩, ⟨rBx7 BK390.out⟩, ⟨rBx7 BK403.out⟩, ⟨be2x7 HB.out GE390.out GE403.out⟩⟩
                ·rw [if_neg c54] at H
                 have c54b0 : (t424 == x34_15) = false := beq_eq_false_iff_ne.mpr c54
                 have c54b1 : (t424 != x34_15) = true := bne_iff_ne.mpr c54
                 exact absurd (H.trans (congrArg some hrt.out)) (by generalize kj15 = k_; cases k_ <;> simp [laws_FnMachines.j1])
              ·rw [if_neg c52] at H
               have c52b0 : (t420 == t422) = false := beq_eq_false_iff_ne.mpr c52
               have c52b1 : (t420 != t422) = true := bne_iff_ne.mpr c52
               exact absurd (H.trans (congrArg some hrt.out)) (by generalize kj15 = k_; cases k_ <;> simp [laws_FnMachines.j1])
            ·rw [if_neg c50] at H
             have c50b0 : (t411 == t414) = false := beq_eq_false_iff_ne.mpr c50
             have c50b1 : (t411 != t414) = true := bne_iff_ne.mpr c50
             exact absurd (H.trans (congrArg some hrt.out)) (by generalize kj15 = k_; cases k_ <;> simp [laws_FnMachines.j1])
           ·rw [if_neg c49] at H
            have c49b0 : (t410 == t413) = false := beq_eq_false_iff_ne.mpr c49
            have c49b1 : (t410 != t413) = true := bne_iff_ne.mpr c49
            exact absurd (H.trans (congrArg some hrt.out)) (by generalize kj15 = k_; cases k_ <;> simp [laws_FnMachines.j1])
         ·rw [if_neg c47] at H
          have c47b0 : (t405 == t408) = false := beq_eq_false_iff_ne.mpr c47
          have c47b1 : (t405 != t408) = true := bne_iff_ne.mpr c47
          exact absurd (H.trans (congrArg some hrt.out)) (by generalize kj15 = k_; cases k_ <;> simp [laws_FnMachines.j1])
        ·rw [if_neg c46] at H
         have c46b0 : (t404 == t407) = false := beq_eq_false_iff_ne.mpr c46
         have c46b1 : (t404 != t407) = true := bne_iff_ne.mpr c46
         exact absurd (H.trans (congrArg some hrt.out)) (by generalize kj15 = k_; cases k_ <;> simp [laws_FnMachines.j1])
      ·replace c44 := Bool.eq_false_iff.mpr c44
       subst c44
       have H1 : (laws_FnMachines.j1 kj15 t389 t391 t394 t395 t402 t406 t407 t408 t412 t413 t414 true t385 t386 t387 t399 t400 t401) = some r := by rw [if_neg (show ¬ (false = true) by decide)] at H; exact H
       clear H
       have H := H1
       clear H1
       exact absurd (H.trans (congrArg some hrt.out)) (by generalize kj15 = k_; cases k_ <;> simp [laws_FnMachines.j1])
    case rest =>
     as_aux_lemma =>
     clear HC41
     try clear c44; try clear c46; try clear c46b0; try clear c46b1; try clear c47; try clear c47b0; try clear c47b1; try clear c49; try clear c49b0; try clear c49b1; try clear c50; try clear c50b0; try clear c50b1; try clear c52; try clear c52b0; try clear c52b1; try clear c54; try clear c54b0; try clear c54b1
     obtain ⟨kq, x209_40, rfl, HA, HJ40, HO_8, HO_10, BK390, BK403, HB⟩ := hcut
     cases kq with
     | zero => exact absurd HA.out (by simp [laws_FnMachines.j1])
     | succ kj40 =>
      have H := HA.out
      clear HA
      simp only [laws_FnMachines.j1] at H
      by_cases c70 : x209_40 = true
      ·subst c70
       have H1 : (some false) = some r := by rw [if_pos rfl] at H; exact H
       clear H
       have H := H1
       clear H1
       exact absurd (H.trans (congrArg some hrt.out)) (by simp)
      ·replace c70 := Bool.eq_false_iff.mpr c70
       subst c70
       have H1 : (if t412 = true then (if t413 < 0 then (laws_FnMachines.j2 kj40 t389 t391 t394 t395 t402 t412 t413 t414 true t385 t386 t387 t399 t400 t401) else (if t413 > t414 then (laws_FnMachines.j2 kj40 t389 t391 t394 t395 t402 t412 t413 t414 true t385 t386 t387 t399 t400 t401) else (if t406 = true then (if t407 < 0 then (laws_FnMachines.j2 kj40 t389 t391 t394 t395 t402 t412 t413 t414 true t385 t386 t387 t399 t400 t401) else (laws_FnMachines.j2 kj40 t389 t391 t394 t395 t402 t412 t413 t414 (decide (t407 > (wrap64 (t402 * t408)))) t385 t386 t387 t399 t400 t401)) else (laws_FnMachines.j2 kj40 t389 t391 t394 t395 t402 t412 t413 t414 false t385 t386 t387 t399 t400 t401)))) else (if t406 = true then (if t407 < 0 then (laws_FnMachines.j2 kj40 t389 t391 t394 t395 t402 t412 t413 t414 true t385 t386 t387 t399 t400 t401) else (laws_FnMachines.j2 kj40 t389 t391 t394 t395 t402 t412 t413 t414 (decide (t407 > (wrap64 (t402 * t408)))) t385 t386 t387 t399 t400 t401)) else (laws_FnMachines.j2 kj40 t389 t391 t394 t395 t402 t412 t413 t414 false t385 t386 t387 t399 t400 t401))) = some r := by rw [if_neg (show ¬ (false = true) by decide)] at H; exact H
       clear H
       have H := H1
       clear H1
       have HC71 := Aside0.mk H
       clear H
       go_upto_region 18 with (fail)
       go_cut [233] (fun v233 wc => ∃ (kq : Nat) (x233_70 : Bool), v233 = .bool x233_70 ∧ Aside0 (laws_FnMachines.j2 kq t389 t391 t394 t395 t402 t412 t413 t414 x233_70 t385 t386 t387 t399 t400 t401 = some r) ∧ Aside0 (kq ≤ kj40) ∧ Aside0 (Kd.R Kd.bool 4 wc w.heap.size (fun k_ => some k_ ≠ (v396 : Value).ownBlock) v392 t391) ∧ Aside0 (Kd.R Kd.bool 4 wc w.heap.size (fun k_ => some k_ ≠ (v392 : Value).ownBlock) v396 t395) ∧ Aside0 (wc.heap[gb390]? = some (.cells #[.int .i64 t385, .int .i64 t386, .bool t387] 24 (0, 0))) ∧ Aside0 (wc.heap[gb403]? = some (.cells #[.int .i64 t399, .int .i64 t400, .bool t401] 24 (0, 0))) ∧ Aside0 (Below w.heap.size w wc))
       case first =>
        as_aux_lemma =>
        have H := HC71.out
        clear HC71
        by_cases c72 : t412 = true
        ·subst c72
         have H1 : (if t413 < 0 then (laws_FnMachines.j2 kj40 t389 t391 t394 t395 t402 true t413 t414 true t385 t386 t387 t399 t400 t401) else (if t413 > t414 then (laws_FnMachines.j2 kj40 t389 t391 t394 t395 t402 true t413 t414 true t385 t386 t387 t399 t400 t401) else (if t406 = true then (if t407 < 0 then (laws_FnMachines.j2 kj40 t389 t391 t394 t395 t402 true t413 t414 true t385 t386 t387 t399 t400 t401) else (laws_FnMachines.j2 kj40 t389 t391 t394 t395 t402 true t413 t414 (decide (t407 > (wrap64 (t402 * t408)))) t385 t386 t387 t399 t400 t401)) else (laws_FnMachines.j2 kj40 t389 t391 t394 t395 t402 true t413 t414 false t385 t386 t387 t399 t400 t401)))) = some r := by rw [if_pos rfl] at H; exact H
         clear H
         have H := H1
         clear H1
         by_cases c73 : t413 < 0
         ·rw [if_pos c73] at H
          have c73b0 : decide (t413 < 0) = true := decide_eq_true c73
          clear c73
          (first | rw [c73b0] | (simp only [i64_w, i32_w]; rw [c73b0]) | skip)
          exact absurd (H.trans (congrArg some hrt.out)) (by generalize kj40 = k_; cases k_ <;> simp [laws_FnMachines.j2])
         ·rw [if_neg c73] at H
          have c73b0 : decide (t413 < 0) = false := decide_eq_false c73
          clear c73
          (first | rw [c73b0] | (simp only [i64_w, i32_w]; rw [c73b0]) | skip)
          by_cases c74 : t413 > t414
          ·rw [if_pos c74] at H
           have c74b0 : decide (t414 < t413) = true := decide_eq_true c74
           clear c74
           exact absurd (H.trans (congrArg some hrt.out)) (by generalize kj40 = k_; cases k_ <;> simp [laws_FnMachines.j2])
          ·rw [if_neg c74] at H
           have c74b0 : decide (t414 < t413) = false := decide_eq_false c74
           clear c74
           by_cases c75 : t406 = true
           ·subst c75
            have H1 : (if t407 < 0 then (laws_FnMachines.j2 kj40 t389 t391 t394 t395 t402 true t413 t414 true t385 t386 t387 t399 t400 t401) else (laws_FnMachines.j2 kj40 t389 t391 t394 t395 t402 true t413 t414 (decide (t407 > (wrap64 (t402 * t408)))) t385 t386 t387 t399 t400 t401)) = some r := by rw [if_pos rfl] at H; exact H
            clear H
            have H := H1
            clear H1
            by_cases c76 : t407 < 0
            ·rw [if_pos c76] at H
             have c76b0 : decide (t407 < 0) = true := decide_eq_true c76
             clear c76
             exact absurd (H.trans (congrArg some hrt.out)) (by generalize kj40 = k_; cases k_ <;> simp [laws_FnMachines.j2])
            ·rw [if_neg c76] at H
             have c76b0 : decide (t407 < 0) = false := decide_eq_false c76
             clear c76
             as_aux_lemma =>
              have H' := Aside0.mk H
              clear H
              go_wp2
              go_meet
              case rel => exact ⟨_, (decide (t407 > (wrap64 (t402 * t408)))), (by first | rfl | (simp; done) | (simp [*]; done)), H', ⟨by have := HJ15.out; have := HJ40.out; first | omega | exact Nat.le_refl _⟩, ⟨rRx7 HO_8.out⟩, ⟨rRx7 HO_10.out⟩, ⟨rBx7 BK390.out⟩, ⟨rBx7 BK403.out⟩, ⟨be2x7 HB.out GE390.out GE403.out⟩⟩
           ·replace c75 := Bool.eq_false_iff.mpr c75
            subst c75
            have H1 : (laws_FnMachines.j2 kj40 t389 t391 t394 t395 t402 true t413 t414 false t385 t386 t387 t399 t400 t401) = some r := by rw [if_neg (show ¬ (false = true) by decide)] at H; exact H
            clear H
            have H := H1
            clear H1
            as_aux_lemma =>
             have H' := Aside0.mk H
             clear H
             go_wp2
             go_meet
             case rel => exact ⟨_, (false), (by first | rfl | (simp; done) | (simp [*]; done)), H', ⟨by have := HJ15.out; have := HJ40.out; first | omega | exact Nat.le_refl _⟩, ⟨rRx7 HO_8.out⟩, ⟨rRx7 HO_10.out⟩, ⟨rBx7 BK390.out⟩, ⟨rBx7 BK403.out⟩, ⟨be2x7 HB.out GE390.out GE403.out⟩⟩
        ·replace c72 := Bool.eq_false_iff.mpr c72
         subst c72
         have H1 : (if t406 = true then (if t407 < 0 then (laws_FnMachines.j2 kj40 t389 t391 t394 t395 t402 false t413 t414 true t385 t386 t387 t399 t400 t401) else (laws_FnMachines.j2 kj40 t389 t391 t394 t395 t402 false t413 t414 (decide (t407 > (wrap64 (t402 * t408)))) t385 t386 t387 t399 t400 t401)) else (laws_FnMachines.j2 kj40 t389 t391 t394 t395 t402 false t413 t414 false t385 t386 t387 t399 t400 t401)) = some r := by rw [if_neg (show ¬ (false = true) by decide)] at H; exact H
         clear H
         have H := H1
         clear H1
         by_cases c77 : t406 = true
         ·subst c77
          have H1 : (if t407 < 0 then (laws_FnMachines.j2 kj40 t389 t391 t394 t395 t402 false t413 t414 true t385 t386 t387 t399 t400 t401) else (laws_FnMachines.j2 kj40 t389 t391 t394 t395 t402 false t413 t414 (decide (t407 > (wrap64 (t402 * t408)))) t385 t386 t387 t399 t400 t401)) = some r := by rw [if_pos rfl] at H; exact H
          clear H
          have H := H1
          clear H1
          by_cases c78 : t407 < 0
          ·rw [if_pos c78] at H
           have c78b0 : decide (t407 < 0) = true := decide_eq_true c78
           clear c78
           exact absurd (H.trans (congrArg some hrt.out)) (by generalize kj40 = k_; cases k_ <;> simp [laws_FnMachines.j2])
          ·rw [if_neg c78] at H
           have c78b0 : decide (t407 < 0) = false := decide_eq_false c78
           clear c78
           as_aux_lemma =>
            have H' := Aside0.mk H
            clear H
            go_wp2
            go_meet
            case rel => exact ⟨_, (decide (t407 > (wrap64 (t402 * t408)))), (by first | rfl | (simp; done) | (simp [*]; done)), H', ⟨by have := HJ15.out; have := HJ40.out; first | omega | exact Nat.le_refl _⟩, ⟨rRx7 HO_8.out⟩, ⟨rRx7 HO_10.out⟩, ⟨rBx7 BK390.out⟩, ⟨rBx7 BK403.out⟩, ⟨be2x7 HB.out GE390.out GE403.out⟩⟩
         ·replace c77 := Bool.eq_false_iff.mpr c77
          subst c77
          have H1 : (laws_FnMachines.j2 kj40 t389 t391 t394 t395 t402 false t413 t414 false t385 t386 t387 t399 t400 t401) = some r := by rw [if_neg (show ¬ (false = true) by decide)] at H; exact H
          clear H
          have H := H1
          clear H1
          as_aux_lemma =>
           have H' := Aside0.mk H
           clear H
           go_wp2
           go_meet
           case rel => exact ⟨_, (false), (by first | rfl | (simp; done) | (simp [*]; done)), H', ⟨by have := HJ15.out; have := HJ40.out; first | omega | exact Nat.le_refl _⟩, ⟨rRx7 HO_8.out⟩, ⟨rRx7 HO_10.out⟩, ⟨rBx7 BK390.out⟩, ⟨rBx7 BK403.out⟩, ⟨be2x7 HB.out GE390.out GE403.out⟩⟩
       case rest =>
        as_aux_lemma =>
        clear HC71
        try clear c70; try clear c72; try clear c73; try clear c73b0; try clear c74; try clear c74b0; try clear c75; try clear c76; try clear c76b0; try clear c77; try clear c78; try clear c78b0
        obtain ⟨kq, x233_70, rfl, HA, HJ70, HO_8, HO_10, BK390, BK403, HB⟩ := hcut
        cases kq with
        | zero => exact absurd HA.out (by simp [laws_FnMachines.j2])
        | succ kj70 =>
         have H := HA.out
         clear HA
         simp only [laws_FnMachines.j2] at H
         by_cases c79 : x233_70 = true
         ·subst c79
          have H1 : (some false) = some r := by rw [if_pos rfl] at H; exact H
          clear H
          have H := H1
          clear H1
          exact absurd (H.trans (congrArg some hrt.out)) (by simp)
         ·replace c79 := Bool.eq_false_iff.mpr c79
          subst c79
          have H1 : (if t412 = true then (laws_FnMachines.j3 kj70 t389 t391 t394 t395 t402 t413 t414 (decide (t402 < 4)) t385 t386 t387 t399 t400 t401) else (laws_FnMachines.j3 kj70 t389 t391 t394 t395 t402 t413 t414 false t385 t386 t387 t399 t400 t401)) = some r := by rw [if_neg (show ¬ (false = true) by decide)] at H; exact H
          clear H
          have H := H1
          clear H1
          have HC80 := Aside0.mk H
          clear H
          go_upto_region 20 with (fail)
          go_cut [238] (fun v238 wc => ∃ (kq : Nat) (x238_79 : Bool), v238 = .bool x238_79 ∧ Aside0 (laws_FnMachines.j3 kq t389 t391 t394 t395 t402 t413 t414 x238_79 t385 t386 t387 t399 t400 t401 = some r) ∧ Aside0 (kq ≤ kj70) ∧ Aside0 (Kd.R Kd.bool 4 wc w.heap.size (fun k_ => some k_ ≠ (v396 : Value).ownBlock) v392 t391) ∧ Aside0 (Kd.R Kd.bool 4 wc w.heap.size (fun k_ => some k_ ≠ (v392 : Value).ownBlock) v396 t395) ∧ Aside0 (wc.heap[gb390]? = some (.cells #[.int .i64 t385, .int .i64 t386, .bool t387] 24 (0, 0))) ∧ Aside0 (wc.heap[gb403]? = some (.cells #[.int .i64 t399, .int .i64 t400, .bool t401] 24 (0, 0))) ∧ Aside0 (Below w.heap.size w wc))
          case first =>
           as_aux_lemma =>
           have H := HC80.out
           clear HC80
           by_cases c81 : t412 = true
           ·subst c81
            have H1 : (laws_FnMachines.j3 kj70 t389 t391 t394 t395 t402 t413 t414 (decide (t402 < 4)) t385 t386 t387 t399 t400 t401) = some r := by rw [if_pos rfl] at H; exact H
            clear H
            have H := H1
            clear H1
            as_aux_lemma =>
             have H' := Aside0.mk H
             clear H
             go_wp2
             go_meet
             case rel => exact ⟨_, (decide (t402 < 4)), (by first | rfl | (simp; done) | (simp [*]; done)), H', ⟨by have := HJ15.out; have := HJ40.out; have := HJ70.out; first | omega | exact Nat.le_refl _⟩, ⟨rRx7 HO_8.out⟩, ⟨rRx7 HO_10.out⟩, ⟨rBx7 BK390.out⟩, ⟨rBx7 BK403.out⟩, ⟨be2x7 HB.out GE390.out GE403.out⟩⟩
           ·replace c81 := Bool.eq_false_iff.mpr c81
            subst c81
            have H1 : (laws_FnMachines.j3 kj70 t389 t391 t394 t395 t402 t413 t414 false t385 t386 t387 t399 t400 t401) = some r := by rw [if_neg (show ¬ (false = true) by decide)] at H; exact H
            clear H
            have H := H1
            clear H1
            as_aux_lemma =>
             have H' := Aside0.mk H
             clear H
             go_wp2
             go_meet
             case rel => exact ⟨_, (false), (by first | rfl | (simp; done) | (simp [*]; done)), H', ⟨by have := HJ15.out; have := HJ40.out; have := HJ70.out; first | omega | exact Nat.le_refl _⟩, ⟨rRx7 HO_8.out⟩, ⟨rRx7 HO_10.out⟩, ⟨rBx7 BK390.out⟩, ⟨rBx7 BK403.out⟩, ⟨be2x7 HB.out GE390.out GE403.out⟩⟩
          case rest =>
           as_aux_lemma =>
           clear HC80
           try clear c79; try clear c81
           obtain ⟨kq, x238_79, rfl, HA, HJ79, HO_8, HO_10, BK390, BK403, HB⟩ := hcut
           cases kq with
           | zero => exact absurd HA.out (by simp [laws_FnMachines.j3])
           | succ kj79 =>
            have H := HA.out
            clear HA
            simp only [laws_FnMachines.j3] at H
            have HC82 := Aside0.mk H
            clear H
            go_upto_if 238 with (fail)
            go_cut [] (fun wc => ∃ (kq : Nat), Aside0 (laws_FnMachines.j4 kq t389 t391 t394 t395 t385 t386 t387 = some r) ∧ Aside0 (kq ≤ kj79) ∧ Aside0 (Kd.R Kd.bool 4 wc w.heap.size (fun k_ => some k_ ≠ (v396 : Value).ownBlock) v392 t391) ∧ Aside0 (Kd.R Kd.bool 4 wc w.heap.size (fun k_ => some k_ ≠ (v392 : Value).ownBlock) v396 t395) ∧ Aside0 (wc.heap[gb390]? = some (.cells #[.int .i64 t385, .int .i64 t386, .bool t387] 24 (0, 0))) ∧ Aside0 (wc.heap[gb403]? = some (.cells #[.int .i64 t399, .int .i64 t400, .bool t401] 24 (0, 0))) ∧ Aside0 (Below w.heap.size w wc))
            case first =>
             as_aux_lemma =>
             have H := HC82.out
             clear HC82
             by_cases c83 : x238_79 = true
             ·subst c83
              have H1 : ((impl_ReadyChance.f kj79 t399 t400 t401 (wrap64 (t402 + 1))).bind fun bt431 => ((spec_ReadyChance.f kj79 t399 t400 t401 (wrap64 (t402 + 1))).bind fun bt434 => (if bt431.2.2 = true then (if bt434.2.2 = true then (if bt431.1 = bt434.1 then (if bt431.2.1 = bt434.2.1 then (if (wrap64 ((wrap64 (bt434.1 * t414)) * 100)) = (wrap64 (bt434.2.1 * (wrap64 ((wrap64 (t413 * (wrap64 (100 - t399)))) + (wrap64 ((wrap64 (t414 - t413)) * t400)))))) then (laws_FnMachines.j4 kj79 t389 t391 t394 t395 t385 t386 t387) else (some false)) else (some false)) else (some false)) else (some false)) else (some false)))) = some r := by rw [if_pos rfl] at H; exact H
              clear H
              have H := H1
              clear H1
              replace H := Option.bind_eq_some_iff.mp H
              obtain ⟨⟨t431, t432, t433⟩, A840, H⟩ := H
              (try dsimp only at H)
              have A84 := Aside0.mk A840
              clear A840
              replace H := Option.bind_eq_some_iff.mp H
              obtain ⟨⟨t434, t435, t436⟩, A850, H⟩ := H
              (try dsimp only at H)
              have A85 := Aside0.mk A850
              clear A850
              by_cases c86 : t433 = true
              ·subst c86
               have H1 : (if t436 = true then (if t431 = t434 then (if t432 = t435 then (if (wrap64 ((wrap64 (t434 * t414)) * 100)) = (wrap64 (t435 * (wrap64 ((wrap64 (t413 * (wrap64 (100 - t399)))) + (wrap64 ((wrap64 (t414 - t413)) * t400)))))) then (laws_FnMachines.j4 kj79 t389 t391 t394 t395 t385 t386 t387) else (some false)) else (some false)) else (some false)) else (some false)) = some r := by rw [if_pos rfl] at H; exact H
               clear H
               have H := H1
               clear H1
               by_cases c87 : t436 = true
               ·subst c87
                have H1 : (if t431 = t434 then (if t432 = t435 then (if (wrap64 ((wrap64 (t434 * t414)) * 100)) = (wrap64 (t435 * (wrap64 ((wrap64 (t413 * (wrap64 (100 - t399)))) + (wrap64 ((wrap64 (t414 - t413)) * t400)))))) then (laws_FnMachines.j4 kj79 t389 t391 t394 t395 t385 t386 t387) else (some false)) else (some false)) else (some false)) = some r := by rw [if_pos rfl] at H; exact H
                clear H
                have H := H1
                clear H1
                by_cases c88 : t431 = t434
                ·rw [if_pos c88] at H
                 have c88b0 : (t431 == t434) = true := beq_iff_eq.mpr c88
                 have c88b1 : (t431 != t434) = false := bne_eq_false_iff_eq.mpr c88
                 clear c88
                 (first | rw [c88b0] | (simp only [i64_w, i32_w]; rw [c88b0]) | skip)
                 by_cases c89 : t432 = t435
                 ·rw [if_pos c89] at H
                  have c89b0 : (t432 == t435) = true := beq_iff_eq.mpr c89
                  have c89b1 : (t432 != t435) = false := bne_eq_false_iff_eq.mpr c89
                  clear c89
                  by_cases c90 : (wrap64 ((wrap64 (t434 * t414)) * 100)) = (wrap64 (t435 * (wrap64 ((wrap64 (t413 * (wrap64 (100 - t399)))) + (wrap64 ((wrap64 (t414 - t413)) * t400))))))
                  ·rw [if_pos c90] at H
                   have c90b0 : ((wrap64 ((wrap64 (t434 * t414)) * 100)) == (wrap64 (t435 * (wrap64 ((wrap64 (t413 * (wrap64 (100 - t399)))) + (wrap64 ((wrap64 (t414 - t413)) * t400))))))) = true := beq_iff_eq.mpr c90
                   have c90b1 : ((wrap64 ((wrap64 (t434 * t414)) * 100)) != (wrap64 (t435 * (wrap64 ((wrap64 (t413 * (wrap64 (100 - t399)))) + (wrap64 ((wrap64 (t414 - t413)) * t400))))))) = false := bne_eq_false_iff_eq.mpr c90
                   clear c90
                   as_aux_lemma =>
                    have H' := Aside0.mk H
                    clear H
                    have hnb91 := NB403_390.out
                    have hnc91 := NB390_403.out
                    obtain ⟨hcz92_0, hcz92_1, hcz92_2, hfz92_0, hfz92_1, hfz92_2⟩ := cf3x7 BK403.out
                    go_wp2_with (first | ((with_reducible refine gate_callee (f := 11) rfl ?_); refine goesL_ (some 243) rfl rfl Try.func11 (by kernel_rfl) rfl #[.agg #[.int .i64 t399, .int .i64 t400, .bool t401], .int .i64 (wrap64 (t402 + 1))] rfl mpx7 ?_; (with_reducible refine (impl_ReadyChance.calls kj79 t399 t400 t401 (wrap64 (t402 + 1)) t431 t432 true _ A84.out).mono ?_); rintro e w93 ⟨rfl, hb⟩; refine ⟨_, rfl, ?_⟩; replace HO_8 := Aside0.mk (Kd.R_below (rRx7 HO_8.out) hb); replace HO_10 := Aside0.mk (Kd.R_below (rRx7 HO_10.out) hb); replace BK390 := Aside0.mk (blk_below (rBx7 BK390.out) hb); replace BK403 := Aside0.mk (blk_below (rBx7 BK403.out) hb); replace HB := Aside0.mk (below_step (be2x7 HB.out GE390.out GE403.out) hb); (try clear hb); (try clear hb2); (try clear hk); (try clear hi); obtain ⟨hcz94_0, hcz94_1, hcz94_2, hfz94_0, hfz94_1, hfz94_2⟩ := cf3x7 BK403.out) | ((with_reducible refine gate_callee (f := 12) rfl ?_); refine goesL_ (some 251) rfl rfl Try.func12 (by kernel_rfl) rfl #[.agg #[.int .i64 t399, .int .i64 t400, .bool t401], .int .i64 (wrap64 (t402 + 1))] rfl mpx7 ?_; (with_reducible refine (spec_ReadyChance.calls kj79 t399 t400 t401 (wrap64 (t402 + 1)) t434 t435 true _ A85.out).mono ?_); rintro e w95 ⟨rfl, hb⟩; refine ⟨_, rfl, ?_⟩; replace HO_8 := Aside0.mk (Kd.R_below (rRx7 HO_8.out) hb); replace HO_10 := Aside0.mk (Kd.R_below (rRx7 HO_10.out) hb); replace BK390 := Aside0.mk (blk_below (rBx7 BK390.out) hb); replace BK403 := Aside0.mk (blk_below (rBx7 BK403.out) hb); replace HB := Aside0.mk (below_step (be2x7 HB.out GE390.out GE403.out) hb); (try clear hb); (try clear hb2); (try clear hk); (try clear hi); obtain ⟨hcz96_0, hcz96_1, hcz96_2, hfz96_0, hfz96_1, hfz96_2⟩ := cf3x7 BK403.out))
                    go_meet
                    case rel => exact ⟨_, H', ⟨by have := HJ15.out; have := HJ40.out; have := HJ70.out; have := HJ79.out; first | omega | exact Nat.le_refl _⟩, ⟨rRx7 HO_8.out⟩, ⟨rRx7 HO_10.out⟩, ⟨rBx7 BK390.out⟩, ⟨rBx7 BK403.out⟩, ⟨be2x7 HB.out GE390.out GE403.out⟩⟩
                  ·rw [if_neg c90] at H
                   have c90b0 : ((wrap64 ((wrap64 (t434 * t414)) * 100)) == (wrap64 (t435 * (wrap64 ((wrap64 (t413 * (wrap64 (100 - t399)))) + (wrap64 ((wrap64 (t414 - t413)) * t400))))))) = false := beq_eq_false_iff_ne.mpr c90
                   have c90b1 : ((wrap64 ((wrap64 (t434 * t414)) * 100)) != (wrap64 (t435 * (wrap64 ((wrap64 (t413 * (wrap64 (100 - t399)))) + (wrap64 ((wrap64 (t414 - t413)) * t400))))))) = true := bne_iff_ne.mpr c90
                   exact absurd (H.trans (congrArg some hrt.out)) (by simp)
                 ·rw [if_neg c89] at H
                  have c89b0 : (t432 == t435) = false := beq_eq_false_iff_ne.mpr c89
                  have c89b1 : (t432 != t435) = true := bne_iff_ne.mpr c89
                  exact absurd (H.trans (congrArg some hrt.out)) (by simp)
                ·rw [if_neg c88] at H
                 have c88b0 : (t431 == t434) = false := beq_eq_false_iff_ne.mpr c88
                 have c88b1 : (t431 != t434) = true := bne_iff_ne.mpr c88
                 (first | rw [c88b0] | (simp only [i64_w, i32_w]; rw [c88b0]) | skip)
                 exact absurd (H.trans (congrArg some hrt.out)) (by simp)
               ·replace c87 := Bool.eq_false_iff.mpr c87
                subst c87
                have H1 : (some false) = some r := by rw [if_neg (show ¬ (false = true) by decide)] at H; exact H
                clear H
                have H := H1
                clear H1
                exact absurd (H.trans (congrArg some hrt.out)) (by simp)
              ·replace c86 := Bool.eq_false_iff.mpr c86
               subst c86
               have H1 : (some false) = some r := by rw [if_neg (show ¬ (false = true) by decide)] at H; exact H
               clear H
               have H := H1
               clear H1
               exact absurd (H.trans (congrArg some hrt.out)) (by simp)
             ·replace c83 := Bool.eq_false_iff.mpr c83
              subst c83
              have H1 : (laws_FnMachines.j4 kj79 t389 t391 t394 t395 t385 t386 t387) = some r := by rw [if_neg (show ¬ (false = true) by decide)] at H; exact H
              clear H
              have H := H1
              clear H1
              as_aux_lemma =>
               have H' := Aside0.mk H
               clear H
               go_wp2
               go_meet
               case rel => exact ⟨_, H', ⟨by have := HJ15.out; have := HJ40.out; have := HJ70.out; have := HJ79.out; first | omega | exact Nat.le_refl _⟩, ⟨rRx7 HO_8.out⟩, ⟨rRx7 HO_10.out⟩, ⟨rBx7 BK390.out⟩, ⟨rBx7 BK403.out⟩, ⟨be2x7 HB.out GE390.out GE403.out⟩⟩
            case rest =>
             as_aux_lemma =>
             clear HC82
             try clear c83; try clear c86; try clear c87; try clear c88; try clear c88b0; try clear c88b1; try clear c89; try clear c89b0; try clear c89b1; try clear c90; try clear c90b0; try clear c90b1; try clear hcz92_0 hcz92_1 hcz92_2; try clear hcz94_0 hcz94_1 hcz94_2; try clear hcz96_0 hcz96_1 hcz96_2; try clear hfz92_0 hfz92_1 hfz92_2; try clear hfz94_0 hfz94_1 hfz94_2; try clear hfz96_0 hfz96_1 hfz96_2
             obtain ⟨kq, HA, HJ81, HO_8, HO_10, BK390, BK403, HB⟩ := hcut
             cases kq with
             | zero => exact absurd HA.out (by simp [laws_FnMachines.j4])
             | succ kj81 =>
              have H := HA.out
              clear HA
              simp only [laws_FnMachines.j4] at H
              by_cases c97 : t394 = true
              ·subst c97
               have H1 : ((impl_ReadyIn.f kj81 t391).bind fun bt437 => ((impl_LongestDown.f kj81 t391).bind fun bt439 => (if bt437.2 = true then (if bt439.2 = true then (if (wrap64 (bt437.1 + bt439.1)) > (t395.length : Int) then (some false) else (if (t395.length : Int) = t389 then (if t389 = 0 then (some true) else (if 0 < (t395.length : Int) then (if ((rdOf false t395 0) == t387) = true then (if t385 > 0 then (some true) else (if t387 = true then (some (bt437.1 == t389)) else (some true))) else (some false)) else (none))) else (some false))) else (some false)) else (some false)))) = some r := by rw [if_pos rfl] at H; exact H
               clear H
               have H := H1
               clear H1
               replace H := Option.bind_eq_some_iff.mp H
               obtain ⟨⟨t437, t438⟩, A980, H⟩ := H
               (try dsimp only at H)
               have A98 := Aside0.mk A980
               clear A980
               replace H := Option.bind_eq_some_iff.mp H
               obtain ⟨⟨t439, t440⟩, A990, H⟩ := H
               (try dsimp only at H)
               have A99 := Aside0.mk A990
               clear A990
               by_cases c100 : t438 = true
               ·subst c100
                have H1 : (if t440 = true then (if (wrap64 (t437 + t439)) > (t395.length : Int) then (some false) else (if (t395.length : Int) = t389 then (if t389 = 0 then (some true) else (if 0 < (t395.length : Int) then (if ((rdOf false t395 0) == t387) = true then (if t385 > 0 then (some true) else (if t387 = true then (some (t437 == t389)) else (some true))) else (some false)) else (none))) else (some false))) else (some false)) = some r := by rw [if_pos rfl] at H; exact H
                clear H
                have H := H1
                clear H1
                by_cases c101 : t440 = true
                ·subst c101
                 have H1 : (if (wrap64 (t437 + t439)) > (t395.length : Int) then (some false) else (if (t395.length : Int) = t389 then (if t389 = 0 then (some true) else (if 0 < (t395.length : Int) then (if ((rdOf false t395 0) == t387) = true then (if t385 > 0 then (some true) else (if t387 = true then (some (t437 == t389)) else (some true))) else (some false)) else (none))) else (some false))) = some r := by rw [if_pos rfl] at H; exact H
                 clear H
                 have H := H1
                 clear H1
                 by_cases c102 : (wrap64 (t437 + t439)) > (t395.length : Int)
                 ·rw [if_pos c102] at H
                  have c102b0 : decide ((t395.length : Int) < (wrap64 (t437 + t439))) = true := decide_eq_true c102
                  clear c102
                  exact absurd (H.trans (congrArg some hrt.out)) (by simp)
                 ·rw [if_neg c102] at H
                  have c102b0 : decide ((t395.length : Int) < (wrap64 (t437 + t439))) = false := decide_eq_false c102
                  clear c102
                  by_cases c103 : (t395.length : Int) = t389
                  ·rw [if_pos c103] at H
                   have c103b0 : ((t395.length : Int) == t389) = true := beq_iff_eq.mpr c103
                   have c103b1 : ((t395.length : Int) != t389) = false := bne_eq_false_iff_eq.mpr c103
                   clear c103
                   by_cases c104 : t389 = 0
                   ·rw [if_pos c104] at H
                    have c104b0 : (t389 == 0) = true := beq_iff_eq.mpr c104
                    have c104b1 : (t389 != 0) = false := bne_eq_false_iff_eq.mpr c104
                    clear c104
                    as_aux_lemma =>
                     obtain rfl := Option.some.inj H
                     obtain ⟨Ao105, co105, eo105⟩ := Kd.R_slice HO_8.out
                     subst eo105
                     try go_wp2_with (first | ((with_reducible refine gate_callee (f := 21) rfl ?_); refine goesL_ (some 296) rfl rfl Try.func21 (by kernel_rfl) rfl #[.slice Ao105 t391.length co105] rfl mpx7 ?_; (with_reducible refine (impl_ReadyIn.calls kj81 _ _ t391 t437 true _ ?side1 ?side2 A98.out).mono ?_); (case side1 => exact cRx7 HO_8.out); (case side2 => exact (Kd.R_reads' HO_8.out).2.1); rintro e w' ⟨rfl, ⟨nd, rfl⟩⟩; refine ⟨_, rfl, ?_⟩) | ((with_reducible refine gate_callee (f := 22) rfl ?_); refine goesL_ (some 301) rfl rfl Try.func22 (by kernel_rfl) rfl #[.slice Ao105 t391.length co105] rfl mpx7 ?_; (with_reducible refine (impl_LongestDown.calls kj81 _ _ t391 t439 true _ ?side1 ?side2 A99.out).mono ?_); (case side1 => exact cRx7 HO_8.out); (case side2 => exact (Kd.R_reads' HO_8.out).2.1); rintro e w106 ⟨rfl, hb⟩; refine ⟨_, rfl, ?_⟩; replace HO_8 := Aside0.mk (Kd.R_below (rRx7 HO_8.out) hb); replace HO_10 := Aside0.mk (Kd.R_below (rRx7 HO_10.out) hb); replace BK390 := Aside0.mk (blk_below (rBx7 BK390.out) hb); replace BK403 := Aside0.mk (blk_below (rBx7 BK403.out) hb); replace HB := Aside0.mk (below_step (be2x7 HB.out GE390.out GE403.out) hb); (try clear hb); (try clear hb2); (try clear hk); (try clear hi); obtain ⟨Ao107, co107, eo107⟩ := Kd.R_slice HO_10.out; subst eo107))
                     replace HO_8 := Aside0.mk (Kd.R_drew HO_8.out)
                     replace HO_10 := Aside0.mk (Kd.R_drew HO_10.out)
                     replace BK390 := Aside0.mk (blk_drew BK390.out)
                     replace BK403 := Aside0.mk (blk_drew BK403.out)
                     replace HB := Aside0.mk (below_drew1 HB.out)
                     refine start_ (n := 26) (S := fun w' => True) (ds := []) (tf_ 0 26) (by kernel_rfl) rfl rfl trivial (fun hHeld => ?_); refine with_tabW laws_FnMachines.tab31 laws_FnMachines.bits31 (fun HT_ HW_ => ?_)
                     generalize w106.drew = w108 at HO_8 HO_10 BK390 BK403 HB hHeld ⊢
                     refine pv_ 0 324 (tf_ 1 26) HT_ ?_
                     refine pv_ 1 325 (tf_ 2 26) HT_ ?_
                     refine pv_ 2 326 (tf_ 3 26) HT_ ?_
                     refine pz_ 3 327 (tf_ 4 26) HT_ ?_
                     refine pz_ 4 328 (tf_ 5 26) HT_ ?_
                     refine pz_ 5 329 (tf_ 6 26) HT_ ?_
                     refine pz_ 6 330 (tf_ 7 26) HT_ ?_
                     refine pz_ 7 331 (tf_ 8 26) HT_ ?_
                     refine pz_ 8 332 (tf_ 9 26) HT_ ?_
                     refine pz_ 9 333 (tf_ 10 26) HT_ ?_
                     refine pz_ 10 334 (tf_ 11 26) HT_ ?_
                     refine pz_ 11 335 (tf_ 12 26) HT_ ?_
                     refine pz_ 12 336 (tf_ 13 26) HT_ ?_
                     refine pz_ 13 337 (tf_ 14 26) HT_ ?_
                     refine pz_ 14 338 (tf_ 15 26) HT_ ?_
                     refine pz_ 15 339 (tf_ 16 26) HT_ ?_
                     refine pz_ 16 340 (tf_ 17 26) HT_ ?_
                     refine pz_ 17 341 (tf_ 18 26) HT_ ?_
                     refine pz_ 18 342 (tf_ 19 26) HT_ ?_
                     refine pz_ 19 343 (tf_ 20 26) HT_ ?_
                     refine pz_ 20 344 (tf_ 21 26) HT_ ?_
                     refine pz_ 21 345 (tf_ 22 26) HT_ ?_
                     refine pz_ 22 346 (tf_ 23 26) HT_ ?_
                     refine pz_ 23 347 (tf_ 24 26) HT_ ?_
                     refine pv_ 24 348 (tf_ 25 26) HT_ ?_
                     refine pv_ 25 4 (tf_ 26 26) HT_ ?_
                     refine done_ (done_of HT_.out (by kernel_rfl)) ?_
                     try go_wp2
                     go_ret
                     exact ⟨by first | rfl | (simp [errW_none, errW_some] <;> rfl) | (simp [*, errW_none, errW_some] <;> rfl), be2x7 HB.out GE390.out GE403.out⟩
                   ·rw [if_neg c104] at H
                    have c104b0 : (t389 == 0) = false := beq_eq_false_iff_ne.mpr c104
                    have c104b1 : (t389 != 0) = true := bne_iff_ne.mpr c104
                    by_cases c109 : 0 < (t395.length : Int)
                    ·rw [if_pos c109] at H
                     have c109b0 : decide (0 < (t395.length : Int)) = true := decide_eq_true c109
                     have c109b1 : decide (0 < t395.length) = true := decide_eq_true (by omega)
                     clear c109
                     by_cases c110 : ((rdOf false t395 0) == t387) = true
                     ·rw [if_pos c110] at H
                      have c110b0 : ((rdOf false t395 0) == t387) = true := c110
                      (try (have c110b1 : decide ((rdOf false t395 0) = t387) = true := by simpa using c110))
                      (try (have c110b2 : ((rdOf false t395 0) == t387) = true := by simpa using c110))
                      clear c110
                      by_cases c111 : t385 > 0
                      ·rw [if_pos c111] at H
                       have c111b0 : decide (0 < t385) = true := decide_eq_true c111
                       clear c111
                       as_aux_lemma =>
                        obtain rfl := Option.some.inj H
                        obtain ⟨Ao112, co112, eo112⟩ := Kd.R_slice HO_8.out
                        subst eo112
                        try go_wp2_with (first | ((with_reducible refine gate_callee (f := 21) rfl ?_); refine goesL_ (some 296) rfl rfl Try.func21 (by kernel_rfl) rfl #[.slice Ao112 t391.length co112] rfl mpx7 ?_; (with_reducible refine (impl_ReadyIn.calls kj81 _ _ t391 t437 true _ ?side1 ?side2 A98.out).mono ?_); (case side1 => exact cRx7 HO_8.out); (case side2 => exact (Kd.R_reads' HO_8.out).2.1); rintro e w' ⟨rfl, ⟨nd, rfl⟩⟩; refine ⟨_, rfl, ?_⟩) | ((with_reducible refine gate_callee (f := 22) rfl ?_); refine goesL_ (some 301) rfl rfl Try.func22 (by kernel_rfl) rfl #[.slice Ao112 t391.length co112] rfl mpx7 ?_; (with_reducible refine (impl_LongestDown.calls kj81 _ _ t391 t439 true _ ?side1 ?side2 A99.out).mono ?_); (case side1 => exact cRx7 HO_8.out); (case side2 => exact (Kd.R_reads' HO_8.out).2.1); rintro e w113 ⟨rfl, hb⟩; refine ⟨_, rfl, ?_⟩; replace HO_8 := Aside0.mk (Kd.R_below (rRx7 HO_8.out) hb); replace HO_10 := Aside0.mk (Kd.R_below (rRx7 HO_10.out) hb); replace BK390 := Aside0.mk (blk_below (rBx7 BK390.out) hb); replace BK403 := Aside0.mk (blk_below (rBx7 BK403.out) hb); replace HB := Aside0.mk (below_step (be2x7 HB.out GE390.out GE403.out) hb); (try clear hb); (try clear hb2); (try clear hk); (try clear hi); obtain ⟨Ao114, co114, eo114⟩ := Kd.R_slice HO_10.out; subst eo114))
                        replace HO_8 := Aside0.mk (Kd.R_drew HO_8.out)
                        replace HO_10 := Aside0.mk (Kd.R_drew HO_10.out)
                        replace BK390 := Aside0.mk (blk_drew BK390.out)
                        replace BK403 := Aside0.mk (blk_drew BK403.out)
                        replace HB := Aside0.mk (below_drew1 HB.out)
                        have p441 : 0 ≤ (0 : Int) := (by omega)
                        have q441 : 0 < (t395.length : Int) := of_decide_eq_true (by first | (with_reducible assumption) | assumption)
                        obtain ⟨ad441, e441, hx441_0⟩ := Kd.at_bool (Kd.R_reads' HO_10.out).2.2 0 p441 q441
                        cases e441
                        have qi441 : (0 < t395.length) = True := eq_true (by omega)
                        (try rw [show ((0 : Int)).toNat = 0 from rfl] at hx441_0)
                        (try rw [Addr.add_zero'] at hx441_0)
                        replace p441 := eq_true p441
                        replace q441 := eq_true q441
                        refine start_ (n := 26) (S := fun w' => w'.cell? ⟨gb390, 0, none⟩ = some (.int .i64 t385) ∧ w'.cell? ⟨gb390, 1, none⟩ = some (.int .i64 t386) ∧ w'.cell? ⟨gb390, 2, none⟩ = some (.bool t387) ∧ w'.cell? ad441 = some (.bool (rdOf false t395 0))) (ds := []) (tf_ 0 26) (by kernel_rfl) rfl rfl ⟨(blk_cell BK390.out 0).trans rfl, (blk_cell BK390.out 1).trans rfl, (blk_cell BK390.out 2).trans rfl, hx441_0⟩ (fun hHeld => ?_); refine with_tabW laws_FnMachines.tab31 laws_FnMachines.bits31 (fun HT_ HW_ => ?_)
                        generalize w113.drew = w115 at HO_8 HO_10 BK390 BK403 HB hx441_0 hHeld ⊢
                        refine pv_ 0 324 (tf_ 1 26) HT_ ?_
                        refine pv_ 1 325 (tf_ 2 26) HT_ ?_
                        refine pv_ 2 326 (tf_ 3 26) HT_ ?_
                        refine pv_ 3 327 (tf_ 4 26) HT_ ?_
                        refine pv_ 4 328 (tf_ 5 26) HT_ ?_
                        refine pv_ 6 330 #[true, true, true, true, true, false, true, false, false, false, false, false, false, false, false, false, false, false, false, false, false, false, false, false, false, false] HT_ ?_
                        refine take_ (i := 5) (N := some 329) (v := ?_) (a' := ?_) (tf_ 7 26) rfl rfl (take_ofW HT_.out HW_.out (by kernel_rfl)) (fun _ _ _ h => h) (Or.inl ⟨by rfl, ?_⟩) hHeld ?_ ?_
                        rotate_left
                        ·rintro w' ⟨s0, s1, s2, s3⟩
                         go_simp
                         with_reducible rfl
                        rotate_left
                        ·simp only [Act.put, List.setIfInBounds_toArray, List.set_cons_zero, List.set_cons_succ, i64_w, i32_w]
                         rfl
                        refine take_ (i := 7) (N := some 331) (v := ?_) (a' := ?_) (tf_ 8 26) rfl rfl (take_ofW HT_.out HW_.out (by kernel_rfl)) (fun _ _ _ h => h) (Or.inl ⟨by rfl, ?_⟩) hHeld ?_ ?_
                        rotate_left
                        ·rintro w' ⟨s0, s1, s2, s3⟩
                         go_simp
                         with_reducible rfl
                        rotate_left
                        ·simp only [Act.put, List.setIfInBounds_toArray, List.set_cons_zero, List.set_cons_succ, i64_w, i32_w]
                         rfl
                        refine pv_ 8 332 (tf_ 9 26) HT_ ?_
                        refine pv_ 9 333 (tf_ 10 26) HT_ ?_
                        refine pv_ 10 334 (tf_ 11 26) HT_ ?_
                        refine take_ (i := 11) (N := some 335) (v := ?_) (a' := ?_) (tf_ 12 26) rfl rfl (take_ofW HT_.out HW_.out (by kernel_rfl)) (fun _ _ _ h => h) (Or.inl ⟨by rfl, ?_⟩) hHeld ?_ ?_
                        rotate_left
                        ·rintro w' ⟨s0, s1, s2, s3⟩
                         go_simp
                         with_reducible rfl
                        rotate_left
                        ·simp only [Act.put, List.setIfInBounds_toArray, List.set_cons_zero, List.set_cons_succ, i64_w, i32_w]
                         rfl
                        refine pv_ 12 336 (tf_ 13 26) HT_ ?_
                        refine pv_ 13 337 (tf_ 14 26) HT_ ?_
                        refine pz_ 14 338 (tf_ 15 26) HT_ ?_
                        refine pz_ 15 339 (tf_ 16 26) HT_ ?_
                        refine pz_ 16 340 (tf_ 17 26) HT_ ?_
                        refine pv_ 17 341 (tf_ 18 26) HT_ ?_
                        refine pv_ 18 342 (tf_ 19 26) HT_ ?_
                        refine pz_ 19 343 (tf_ 20 26) HT_ ?_
                        refine pz_ 20 344 (tf_ 21 26) HT_ ?_
                        refine pz_ 21 345 (tf_ 22 26) HT_ ?_
                        refine pv_ 22 346 (tf_ 23 26) HT_ ?_
                        refine pv_ 23 347 (tf_ 24 26) HT_ ?_
                        refine pv_ 24 348 (tf_ 25 26) HT_ ?_
                        refine pv_ 25 4 (tf_ 26 26) HT_ ?_
                        refine done_ (done_of HT_.out (by kernel_rfl)) ?_
                        try go_wp2
                        go_ret
                        exact ⟨by first | rfl | (simp [errW_none, errW_some] <;> rfl) | (simp [*, errW_none, errW_some] <;> rfl), be2x7 HB.out GE390.out GE403.out⟩
                      ·rw [if_neg c111] at H
                       have c111b0 : decide (0 < t385) = false := decide_eq_false c111
                       clear c111
                       by_cases c116 : t387 = true
                       ·subst c116
                        have H1 : (some (t437 == t389)) = some r := by rw [if_pos rfl] at H; exact H
                        clear H
                        have H := H1
                        clear H1
                        as_aux_lemma =>
                         obtain rfl := Option.some.inj H
                         obtain ⟨Ao117, co117, eo117⟩ := Kd.R_slice HO_8.out
                         subst eo117
                         try go_wp2_with (first | ((with_reducible refine gate_callee (f := 21) rfl ?_); refine goesL_ (some 296) rfl rfl Try.func21 (by kernel_rfl) rfl #[.slice Ao117 t391.length co117] rfl mpx7 ?_; (with_reducible refine (impl_ReadyIn.calls kj81 _ _ t391 t437 true _ ?side1 ?side2 A98.out).mono ?_); (case side1 => exact cRx7 HO_8.out); (case side2 => exact (Kd.R_reads' HO_8.out).2.1); rintro e w' ⟨rfl, ⟨nd, rfl⟩⟩; refine ⟨_, rfl, ?_⟩) | ((with_reducible refine gate_callee (f := 22) rfl ?_); refine goesL_ (some 301) rfl rfl Try.func22 (by kernel_rfl) rfl #[.slice Ao117 t391.length co117] rfl mpx7 ?_; (with_reducible refine (impl_LongestDown.calls kj81 _ _ t391 t439 true _ ?side1 ?side2 A99.out).mono ?_); (case side1 => exact cRx7 HO_8.out); (case side2 => exact (Kd.R_reads' HO_8.out).2.1); rintro e w118 ⟨rfl, hb⟩; refine ⟨_, rfl, ?_⟩; replace HO_8 := Aside0.mk (Kd.R_below (rRx7 HO_8.out) hb); replace HO_10 := Aside0.mk (Kd.R_below (rRx7 HO_10.out) hb); replace BK390 := Aside0.mk (blk_below (rBx7 BK390.out) hb); replace BK403 := Aside0.mk (blk_below (rBx7 BK403.out) hb); replace HB := Aside0.mk (below_step (be2x7 HB.out GE390.out GE403.out) hb); (try clear hb); (try clear hb2); (try clear hk); (try clear hi); obtain ⟨Ao119, co119, eo119⟩ := Kd.R_slice HO_10.out; subst eo119))
                         replace HO_8 := Aside0.mk (Kd.R_drew HO_8.out)
                         replace HO_10 := Aside0.mk (Kd.R_drew HO_10.out)
                         replace BK390 := Aside0.mk (blk_drew BK390.out)
                         replace BK403 := Aside0.mk (blk_drew BK403.out)
                         replace HB := Aside0.mk (below_drew1 HB.out)
                         have p441 : 0 ≤ (0 : Int) := (by omega)
                         have q441 : 0 < (t395.length : Int) := of_decide_eq_true (by first | (with_reducible assumption) | assumption)
                         obtain ⟨ad441, e441, hx441_0⟩ := Kd.at_bool (Kd.R_reads' HO_10.out).2.2 0 p441 q441
                         cases e441
                         have qi441 : (0 < t395.length) = True := eq_true (by omega)
                         (try rw [show ((0 : Int)).toNat = 0 from rfl] at hx441_0)
                         (try rw [Addr.add_zero'] at hx441_0)
                         replace p441 := eq_true p441
                         replace q441 := eq_true q441
                         refine start_ (n := 26) (S := fun w' => w'.cell? ⟨gb390, 0, none⟩ = some (.int .i64 t385) ∧ w'.cell? ⟨gb390, 1, none⟩ = some (.int .i64 t386) ∧ w'.cell? ⟨gb390, 2, none⟩ = some (.bool true) ∧ w'.cell? ad441 = some (.bool (rdOf false t395 0))) (ds := []) (tf_ 0 26) (by kernel_rfl) rfl rfl ⟨(blk_cell BK390.out 0).trans rfl, (blk_cell BK390.out 1).trans rfl, (blk_cell BK390.out 2).trans rfl, hx441_0⟩ (fun hHeld => ?_); refine with_tabW laws_FnMachines.tab31 laws_FnMachines.bits31 (fun HT_ HW_ => ?_)
                         generalize w118.drew = w120 at HO_8 HO_10 BK390 BK403 HB hx441_0 hHeld ⊢
                         refine pv_ 0 324 (tf_ 1 26) HT_ ?_
                         refine pv_ 1 325 (tf_ 2 26) HT_ ?_
                         refine pv_ 2 326 (tf_ 3 26) HT_ ?_
                         refine pv_ 3 327 (tf_ 4 26) HT_ ?_
                         refine pv_ 4 328 (tf_ 5 26) HT_ ?_
                         refine pv_ 6 330 #[true, true, true, true, true, false, true, false, false, false, false, false, false, false, false, false, false, false, false, false, false, false, false, false, false, false] HT_ ?_
                         refine take_ (i := 5) (N := some 329) (v := ?_) (a' := ?_) (tf_ 7 26) rfl rfl (take_ofW HT_.out HW_.out (by kernel_rfl)) (fun _ _ _ h => h) (Or.inl ⟨by rfl, ?_⟩) hHeld ?_ ?_
                         rotate_left
                         ·rintro w' ⟨s0, s1, s2, s3⟩
                          go_simp
                          with_reducible rfl
                         rotate_left
                         ·simp only [Act.put, List.setIfInBounds_toArray, List.set_cons_zero, List.set_cons_succ, i64_w, i32_w]
                          rfl
                         refine take_ (i := 7) (N := some 331) (v := ?_) (a' := ?_) (tf_ 8 26) rfl rfl (take_ofW HT_.out HW_.out (by kernel_rfl)) (fun _ _ _ h => h) (Or.inl ⟨by rfl, ?_⟩) hHeld ?_ ?_
                         rotate_left
                         ·rintro w' ⟨s0, s1, s2, s3⟩
                          go_simp
                          with_reducible rfl
                         rotate_left
                         ·simp only [Act.put, List.setIfInBounds_toArray, List.set_cons_zero, List.set_cons_succ, i64_w, i32_w]
                          rfl
                         refine pv_ 8 332 (tf_ 9 26) HT_ ?_
                         refine pv_ 9 333 (tf_ 10 26) HT_ ?_
                         refine pv_ 10 334 (tf_ 11 26) HT_ ?_
                         refine take_ (i := 11) (N := some 335) (v := ?_) (a' := ?_) (tf_ 12 26) rfl rfl (take_ofW HT_.out HW_.out (by kernel_rfl)) (fun _ _ _ h => h) (Or.inl ⟨by rfl, ?_⟩) hHeld ?_ ?_
                         rotate_left
                         ·rintro w' ⟨s0, s1, s2, s3⟩
                          go_simp
                          with_reducible rfl
                         rotate_left
                         ·simp only [Act.put, List.setIfInBounds_toArray, List.set_cons_zero, List.set_cons_succ, i64_w, i32_w]
                          rfl
                         refine pv_ 12 336 (tf_ 13 26) HT_ ?_
                         refine pv_ 13 337 (tf_ 14 26) HT_ ?_
                         refine pv_ 14 338 (tf_ 15 26) HT_ ?_
                         refine take_ (i := 15) (N := some 339) (v := ?_) (a' := ?_) (tf_ 16 26) rfl rfl (take_ofW HT_.out HW_.out (by kernel_rfl)) (fun _ _ _ h => h) (Or.inl ⟨by rfl, ?_⟩) hHeld ?_ ?_
                         rotate_left
                         ·rintro w' ⟨s0, s1, s2, s3⟩
                          go_simp
                          with_reducible rfl
                         rotate_left
                         ·simp only [Act.put, List.setIfInBounds_toArray, List.set_cons_zero, List.set_cons_succ, i64_w, i32_w]
                          rfl
                         refine pv_ 16 340 (tf_ 17 26) HT_ ?_
                         refine pv_ 17 341 (tf_ 18 26) HT_ ?_
                         refine pv_ 18 342 (tf_ 19 26) HT_ ?_
                         refine pv_ 19 343 (tf_ 20 26) HT_ ?_
                         refine pv_ 20 344 (tf_ 21 26) HT_ ?_
                         refine pv_ 21 345 (tf_ 22 26) HT_ ?_
                         refine pv_ 22 346 (tf_ 23 26) HT_ ?_
                         refine pv_ 23 347 (tf_ 24 26) HT_ ?_
                         refine pv_ 24 348 (tf_ 25 26) HT_ ?_
                         refine pv_ 25 4 (tf_ 26 26) HT_ ?_
                         refine done_ (done_of HT_.out (by kernel_rfl)) ?_
                         try go_wp2
                         go_ret
                         exact ⟨by first | rfl | (simp [errW_none, errW_some] <;> rfl) | (simp [*, errW_none, errW_some] <;> rfl), be2x7 HB.out GE390.out GE403.out⟩
                       ·replace c116 := Bool.eq_false_iff.mpr c116
                        subst c116
                        have H1 : (some true) = some r := by rw [if_neg (show ¬ (false = true) by decide)] at H; exact H
                        clear H
                        have H := H1
                        clear H1
                        as_aux_lemma =>
                         obtain rfl := Option.some.inj H
                         obtain ⟨Ao121, co121, eo121⟩ := Kd.R_slice HO_8.out
                         subst eo121
                         try go_wp2_with (first | ((with_reducible refine gate_callee (f := 21) rfl ?_); refine goesL_ (some 296) rfl rfl Try.func21 (by kernel_rfl) rfl #[.slice Ao121 t391.length co121] rfl mpx7 ?_; (with_reducible refine (impl_ReadyIn.calls kj81 _ _ t391 t437 true _ ?side1 ?side2 A98.out).mono ?_); (case side1 => exact cRx7 HO_8.out); (case side2 => exact (Kd.R_reads' HO_8.out).2.1); rintro e w' ⟨rfl, ⟨nd, rfl⟩⟩; refine ⟨_, rfl, ?_⟩) | ((with_reducible refine gate_callee (f := 22) rfl ?_); refine goesL_ (some 301) rfl rfl Try.func22 (by kernel_rfl) rfl #[.slice Ao121 t391.length co121] rfl mpx7 ?_; (with_reducible refine (impl_LongestDown.calls kj81 _ _ t391 t439 true _ ?side1 ?side2 A99.out).mono ?_); (case side1 => exact cRx7 HO_8.out); (case side2 => exact (Kd.R_reads' HO_8.out).2.1); rintro e w122 ⟨rfl, hb⟩; refine ⟨_, rfl, ?_⟩; replace HO_8 := Aside0.mk (Kd.R_below (rRx7 HO_8.out) hb); replace HO_10 := Aside0.mk (Kd.R_below (rRx7 HO_10.out) hb); replace BK390 := Aside0.mk (blk_below (rBx7 BK390.out) hb); replace BK403 := Aside0.mk (blk_below (rBx7 BK403.out) hb); replace HB := Aside0.mk (below_step (be2x7 HB.out GE390.out GE403.out) hb); (try clear hb); (try clear hb2); (try clear hk); (try clear hi); obtain ⟨Ao123, co123, eo123⟩ := Kd.R_slice HO_10.out; subst eo123))
                         replace HO_8 := Aside0.mk (Kd.R_drew HO_8.out)
                         replace HO_10 := Aside0.mk (Kd.R_drew HO_10.out)
                         replace BK390 := Aside0.mk (blk_drew BK390.out)
                         replace BK403 := Aside0.mk (blk_drew BK403.out)
                         replace HB := Aside0.mk (below_drew1 HB.out)
                         have p441 : 0 ≤ (0 : Int) := (by omega)
                         have q441 : 0 < (t395.length : Int) := of_decide_eq_true (by first | (with_reducible assumption) | assumption)
                         obtain ⟨ad441, e441, hx441_0⟩ := Kd.at_bool (Kd.R_reads' HO_10.out).2.2 0 p441 q441
                         cases e441
                         have qi441 : (0 < t395.length) = True := eq_true (by omega)
                         (try rw [show ((0 : Int)).toNat = 0 from rfl] at hx441_0)
                         (try rw [Addr.add_zero'] at hx441_0)
                         replace p441 := eq_true p441
                         replace q441 := eq_true q441
                         refine start_ (n := 26) (S := fun w' => w'.cell? ⟨gb390, 0, none⟩ = some (.int .i64 t385) ∧ w'.cell? ⟨gb390, 1, none⟩ = some (.int .i64 t386) ∧ w'.cell? ⟨gb390, 2, none⟩ = some (.bool false) ∧ w'.cell? ad441 = some (.bool (rdOf false t395 0))) (ds := []) (tf_ 0 26) (by kernel_rfl) rfl rfl ⟨(blk_cell BK390.out 0).trans rfl, (blk_cell BK390.out 1).trans rfl, (blk_cell BK390.out 2).trans rfl, hx441_0⟩ (fun hHeld => ?_); refine with_tabW laws_FnMachines.tab31 laws_FnMachines.bits31 (fun HT_ HW_ => ?_)
                         generalize w122.drew = w124 at HO_8 HO_10 BK390 BK403 HB hx441_0 hHeld ⊢
                         refine pv_ 0 324 (tf_ 1 26) HT_ ?_
                         refine pv_ 1 325 (tf_ 2 26) HT_ ?_
                         refine pv_ 2 326 (tf_ 3 26) HT_ ?_
                         refine pv_ 3 327 (tf_ 4 26) HT_ ?_
                         refine pv_ 4 328 (tf_ 5 26) HT_ ?_
                         refine pv_ 6 330 #[true, true, true, true, true, false, true, false, false, false, false, false, false, false, false, false, false, false, false, false, false, false, false, false, false, false] HT_ ?_
                         refine take_ (i := 5) (N := some 329) (v := ?_) (a' := ?_) (tf_ 7 26) rfl rfl (take_ofW HT_.out HW_.out (by kernel_rfl)) (fun _ _ _ h => h) (Or.inl ⟨by rfl, ?_⟩) hHeld ?_ ?_
                         rotate_left
                         ·rintro w' ⟨s0, s1, s2, s3⟩
                          go_simp
                          with_reducible rfl
                         rotate_left
                         ·simp only [Act.put, List.setIfInBounds_toArray, List.set_cons_zero, List.set_cons_succ, i64_w, i32_w]
                          rfl
                         refine take_ (i := 7) (N := some 331) (v := ?_) (a' := ?_) (tf_ 8 26) rfl rfl (take_ofW HT_.out HW_.out (by kernel_rfl)) (fun _ _ _ h => h) (Or.inl ⟨by rfl, ?_⟩) hHeld ?_ ?_
                         rotate_left
                         ·rintro w' ⟨s0, s1, s2, s3⟩
                          go_simp
                          with_reducible rfl
                         rotate_left
                         ·simp only [Act.put, List.setIfInBounds_toArray, List.set_cons_zero, List.set_cons_succ, i64_w, i32_w]
                          rfl
                         refine pv_ 8 332 (tf_ 9 26) HT_ ?_
                         refine pv_ 9 333 (tf_ 10 26) HT_ ?_
                         refine pv_ 10 334 (tf_ 11 26) HT_ ?_
                         refine take_ (i := 11) (N := some 335) (v := ?_) (a' := ?_) (tf_ 12 26) rfl rfl (take_ofW HT_.out HW_.out (by kernel_rfl)) (fun _ _ _ h => h) (Or.inl ⟨by rfl, ?_⟩) hHeld ?_ ?_
                         rotate_left
                         ·rintro w' ⟨s0, s1, s2, s3⟩
                          go_simp
                          with_reducible rfl
                         rotate_left
                         ·simp only [Act.put, List.setIfInBounds_toArray, List.set_cons_zero, List.set_cons_succ, i64_w, i32_w]
                          rfl
                         refine pv_ 12 336 (tf_ 13 26) HT_ ?_
                         refine pv_ 13 337 (tf_ 14 26) HT_ ?_
                         refine pv_ 14 338 (tf_ 15 26) HT_ ?_
                         refine take_ (i := 15) (N := some 339) (v := ?_) (a' := ?_) (tf_ 16 26) rfl rfl (take_ofW HT_.out HW_.out (by kernel_rfl)) (fun _ _ _ h => h) (Or.inl ⟨by rfl, ?_⟩) hHeld ?_ ?_
                         rotate_left
                         ·rintro w' ⟨s0, s1, s2, s3⟩
                          go_simp
                          with_reducible rfl
                         rotate_left
                         ·simp only [Act.put, List.setIfInBounds_toArray, List.set_cons_zero, List.set_cons_succ, i64_w, i32_w]
                          rfl
                         refine pv_ 16 340 (tf_ 17 26) HT_ ?_
                         refine pv_ 17 341 (tf_ 18 26) HT_ ?_
                         refine pv_ 18 342 (tf_ 19 26) HT_ ?_
                         refine pz_ 19 343 (tf_ 20 26) HT_ ?_
                         refine pz_ 20 344 (tf_ 21 26) HT_ ?_
                         refine pz_ 21 345 (tf_ 22 26) HT_ ?_
                         refine pv_ 22 346 (tf_ 23 26) HT_ ?_
                         refine pv_ 23 347 (tf_ 24 26) HT_ ?_
                         refine pv_ 24 348 (tf_ 25 26) HT_ ?_
                         refine pv_ 25 4 (tf_ 26 26) HT_ ?_
                         refine done_ (done_of HT_.out (by kernel_rfl)) ?_
                         try go_wp2
                         go_ret
                         exact ⟨by first | rfl | (simp [errW_none, errW_some] <;> rfl) | (simp [*, errW_none, errW_some] <;> rfl), be2x7 HB.out GE390.out GE403.out⟩
                     ·rw [if_neg c110] at H
                      have c110b0 : ((rdOf false t395 0) == t387) = false := by simpa using c110
                      (try (have c110b1 : decide ((rdOf false t395 0) = t387) = false := by simpa using c110))
                      (try (have c110b2 : ((rdOf false t395 0) == t387) = false := by simpa using c110))
                      (try (have c110b3 : ¬ ((rdOf false t395 0) = t387) := by simpa using c110))
                      clear c110
                      exact absurd (H.trans (congrArg some hrt.out)) (by simp)
                    ·rw [if_neg c109] at H
                     exact absurd H (by simp)
                  ·rw [if_neg c103] at H
                   have c103b0 : ((t395.length : Int) == t389) = false := beq_eq_false_iff_ne.mpr c103
                   have c103b1 : ((t395.length : Int) != t389) = true := bne_iff_ne.mpr c103
                   exact absurd (H.trans (congrArg some hrt.out)) (by simp)
                ·replace c101 := Bool.eq_false_iff.mpr c101
                 subst c101
                 have H1 : (some false) = some r := by rw [if_neg (show ¬ (false = true) by decide)] at H; exact H
                 clear H
                 have H := H1
                 clear H1
                 exact absurd (H.trans (congrArg some hrt.out)) (by simp)
               ·replace c100 := Bool.eq_false_iff.mpr c100
                subst c100
                have H1 : (some false) = some r := by rw [if_neg (show ¬ (false = true) by decide)] at H; exact H
                clear H
                have H := H1
                clear H1
                exact absurd (H.trans (congrArg some hrt.out)) (by simp)
              ·replace c97 := Bool.eq_false_iff.mpr c97
               subst c97
               have H1 : (some true) = some r := by rw [if_neg (show ¬ (false = true) by decide)] at H; exact H
               clear H
               have H := H1
               clear H1
               as_aux_lemma =>
                obtain rfl := Option.some.inj H
                go_wp2
                go_ret
                exact ⟨by first | rfl | (simp [errW_none, errW_some] <;> rfl) | (simp [*, errW_none, errW_some] <;> rfl), be2x7 HB.out GE390.out GE403.out⟩

/-- THE ONE PURE STATEMENT of laws_FnMachines: yours. -/
def laws_FnMachines.Pure : Prop := ∀ (l0 : List Int) (l1 : List Int), l0.length ≤ maxLen → l0.length * 1 ≤ 140737488351232 → (∀ x ∈ l0, (Lit.int .u8 x).wf = true) → l1.length ≤ maxLen → l1.length * 1 ≤ 140737488351232 → (∀ x ∈ l1, (Lit.int .u8 x).wf = true) → ∃ k, laws_FnMachines.f k l0 l1 = some true
theorem laws_FnMachines.walk (P : laws_FnMachines.Pure) (a0 : Option Addr) (len0 cap0 : Nat) (z0 : List Int) (a1 : Option Addr) (len1 cap1 : Nat) (z1 : List Int) (w : World) (w0 : (a0 = none ∧ len0 = 0 ∧ cap0 = 0 ∧ z0 = []) ∨ ∃ x, a0 = some x ∧ len0 ≤ cap0 ∧ cap0 ≤ maxLen ∧ z0.length = cap0 ∧ (∀ i, i < z0.length → w.cell? (x.add i) = some (.int .u8 (z0.getD i 0))) ∧ ∀ n ∈ z0, (Lit.int .u8 n).wf = true) (y0 : len0 * 1 ≤ 140737488351232) (w1 : (a1 = none ∧ len1 = 0 ∧ cap1 = 0 ∧ z1 = []) ∨ ∃ x, a1 = some x ∧ len1 ≤ cap1 ∧ cap1 ≤ maxLen ∧ z1.length = cap1 ∧ (∀ i, i < z1.length → w.cell? (x.add i) = some (.int .u8 (z1.getD i 0))) ∧ ∀ n ∈ z1, (Lit.int .u8 n).wf = true) (y1 : len1 * 1 ≤ 140737488351232) :
  Calls Try.prog 3 #[.slice a0 len0 cap0, .slice a1 len1 cap1] w fun e w' => e = .returned (.bool true) ∧ Below w.heap.size w w' := by
 obtain ⟨l0, rfl, hr0, hm0, hw0, hc0⟩ := ReadsInt.ofRowC w0
 obtain ⟨l1, rfl, hr1, hm1, hw1, hc1⟩ := ReadsInt.ofRowC w1
 obtain ⟨k, h⟩ := P l0 l1 hm0 y0 hw0 hm1 y1 hw1
 refine (laws_FnMachines.calls k _ _ l0 _ _ l1 true w (Kd.C_of_reads (d := (0 : Int)) (h1 := fun _ => rfl) hr0) hc0 (Kd.C_of_reads (d := (0 : Int)) (h1 := fun _ => rfl) hr1) hc1 h (Aside0.mk rfl)).mono ?_
 rintro e w' ⟨rfl, hd⟩
 exact ⟨rfl, hd⟩

end Go.Proofs.Ytccpgcgaaiafnaa.PFnMachines
