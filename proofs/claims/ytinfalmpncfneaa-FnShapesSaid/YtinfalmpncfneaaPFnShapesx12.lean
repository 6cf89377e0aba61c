/- This text is this session's own, not the print's: programs (wip/squeeze.py and others) made it out of what print.sh, or wip/ownprint.py, had written (BYTES set higher), its facts said by short words. -/
import Derived.Test.YtinfalmpncfneaaPFnShapesx0
import Derived.Test.YtinfalmpncfneaaPFnShapesx1
import Derived.Test.YtinfalmpncfneaaPFnShapesx3
import Derived.Test.YtinfalmpncfneaaPFnShapesx4
import Derived.Test.YtinfalmpncfneaaPFnShapesx5
import Derived.Test.YtinfalmpncfneaaPFnShapesx6
import Derived.Test.YtinfalmpncfneaaPFnShapesx7
import Derived.Test.YtinfalmpncfneaaPFnShapesx8
import Derived.Test.YtinfalmpncfneaaPFnShapesx9
import Derived.Test.YtinfalmpncfneaaPFnShapesx10
import Derived.Test.YtinfalmpncfneaaPFnShapesx11
import Derived.Test.YtinfalmpncfneaaPFnShapesrx12
import Derived.Test.YtinfalmpncfneaaPFnShapeswx12
namespace Go.Proofs.Ytinfalmpncfneaa.PFnShapes
open Go.RowKit Go.Proofs.YtinfalmpncfneaaW.PrintWords Go.Proofs.YtinfalmpncfneaaW.PrintLast Go.Proofs.YtinfalmpncfneaaW.PrintMore
attribute [local go_sem] max2_int min2_int max_two min_two max_three min_three max_four min_four   -- for this text's walks alone
set_option linter.unusedVariables false
set_option linter.unusedSimpArgs false

/-! ### laws_FnShapes: function 5 -/
mutual
def laws_FnShapes.j0 : Nat → List Bool → List Bool → Bool → List Bool → List Bool → Int → Int → Bool → Int → Int → List Int → Option (Bool)
 | 0, _, _, _, _, _, _, _, _, _, _, _ => none
 | k + 1, x6, x7, x8, x9, x13, x17, x21, x182, x417000, x417001, x417002 => if x182 = true then (some false) else (if x8 = true then (laws_FnShapes.l0 k x6 x7 x9 x13 x17 x21 x6 (x6.length : Int) 0 x417000 x417001 x417002) else (some true))
def laws_FnShapes.l0 : Nat → List Bool → List Bool → List Bool → List Bool → Int → Int → List Bool → Int → Int → Int → Int → List Int → Option (Bool)
 | 0, _, _, _, _, _, _, _, _, _, _, _, _ => none
 | k + 1, x6, x7, x9, x13, x17, x21, x185, x186, x187, x417000, x417001, x417002 => if x187 < x186 then (if 0 ≤ x187 then (if x187 < (x185.length : Int) then (if rdOf false x185 x187 = true then (if x187 < (x9.length : Int) then (if rdOf false x9 x187 = true then (if x187 < (x13.length : Int) then (if rdOf false x13 x187 = true then (laws_FnShapes.l0 k x6 x7 x9 x13 x17 x21 x185 x186 (wrap64 (x187 + 1)) x417000 x417001 x417002) else (laws_FnShapes.l0 k x6 x7 x9 x13 x17 x21 x185 x186 (wrap64 (x187 + 1)) x417000 x417001 x417002)) else (none)) else (some false)) else (none)) else (if x187 < (x13.length : Int) then (if rdOf false x13 x187 = true then (some false) else (laws_FnShapes.l0 k x6 x7 x9 x13 x17 x21 x185 x186 (wrap64 (x187 + 1)) x417000 x417001 x417002)) else (none))) else (none)) else (none)) else ((impl_ShrinkDug.f k x417000 x417001 x417002 x7).bind fun bt455 => ((laws_pCount.f k x6).bind fun t459 => (if bt455.2 = true then (if (bt455.1.length : Int) = (x6.length : Int) then (if x17 > t459 then (laws_FnShapes.j2 k x6 bt455.1 true) else (if x21 > (wrap64 (4 * t459)) then (laws_FnShapes.j2 k x6 bt455.1 true) else (if ((x21 == 0) != (t459 == 0)) = true then (laws_FnShapes.j2 k x6 bt455.1 true) else (laws_FnShapes.j2 k x6 bt455.1 (decide (x21 < (wrap64 (4 * x17)))))))) else (laws_FnShapes.j2 k x6 bt455.1 true)) else (laws_FnShapes.j2 k x6 bt455.1 true))))
def laws_FnShapes.j2 : Nat → List Bool → List Bool → Bool → Option (Bool)
 | 0, _, _, _ => none
 | k + 1, x6, x33, x251 => if x251 = true then (some false) else (laws_FnShapes.l1 k x33 x6 (x6.length : Int) 0)
def laws_FnShapes.l1 : Nat → List Bool → List Bool → Int → Int → Option (Bool)
 | 0, _, _, _, _ => none
 | k + 1, x33, x252, x253, x254 => if x254 < x253 then (if 0 ≤ x254 then (if x254 < (x252.length : Int) then (if rdOf false x252 x254 = true then (if x254 < (x33.length : Int) then (if rdOf false x33 x254 = true then (laws_FnShapes.l1 k x33 x252 x253 (wrap64 (x254 + 1))) else (some false)) else (none)) else (laws_FnShapes.l1 k x33 x252 x253 (wrap64 (x254 + 1)))) else (none)) else (none)) else (some true)
end
def laws_FnShapes.f (k : Nat) (l0 : List Int) (l1 : List Int) : Option (Bool) := (laws_big.f l0 l1).bind fun t407 => (if t407 = true then (some true) else ((spec_DrawGrowDug.f k l0).bind fun bt408 => ((impl_GrowDug.f k bt408.1 bt408.2.1 bt408.2.2.1 bt408.2.2.2).bind fun bt417 => ((spec_GrowDug.f k bt408.1 bt408.2.1 bt408.2.2.1 bt408.2.2.2).bind fun bt421 => ((impl_ShrinkDug.f k bt408.1 bt408.2.1 bt408.2.2.1 bt408.2.2.2).bind fun bt425 => ((spec_ShrinkDug.f k bt408.1 bt408.2.1 bt408.2.2.1 bt408.2.2.2).bind fun bt429 => ((impl_IslandsOf.f k bt408.1 bt408.2.1 bt408.2.2.1 bt408.2.2.2).bind fun bt433 => ((spec_IslandsOf.f k bt408.1 bt408.2.1 bt408.2.2.1 bt408.2.2.2).bind fun bt435 => ((impl_EdgesOf.f k bt408.1 bt408.2.1 bt408.2.2.1 bt408.2.2.2).bind fun bt437 => ((spec_EdgesOf.f k bt408.1 bt408.2.1 bt408.2.2.1 bt408.2.2.2).bind fun bt439 => ((impl_DigText.f k bt408.1 bt408.2.1 bt408.2.2.1 bt408.2.2.2).bind fun bt441 => ((spec_DigText.f k bt408.1 bt408.2.1 bt408.2.2.1 bt408.2.2.2).bind fun bt443 => ((impl_IsDug.f k bt408.1 bt408.2.1 bt408.2.2.1 bt408.2.2.2).bind fun bt445 => ((spec_IsDug.f k bt408.1 bt408.2.1 bt408.2.2.1 bt408.2.2.2).bind fun bt447 => (if (bt417.2 != bt421.2) = true then (laws_FnShapes.j0 k bt408.2.2.2 bt417.1 bt417.2 bt421.1 bt429.1 bt435.1 bt439.1 true bt408.1 bt408.2.1 bt408.2.2.1) else ((laws_pSameBools.f k bt417.1 bt421.1).bind fun t449 => (if t449 = true then (if (bt425.2 != bt429.2) = true then (laws_FnShapes.j0 k bt408.2.2.2 bt417.1 bt417.2 bt421.1 bt429.1 bt435.1 bt439.1 true bt408.1 bt408.2.1 bt408.2.2.1) else ((laws_pSameBools.f k bt425.1 bt429.1).bind fun t450 => (if t450 = true then (if (bt433.2 != bt435.2) = true then (laws_FnShapes.j0 k bt408.2.2.2 bt417.1 bt417.2 bt421.1 bt429.1 bt435.1 bt439.1 true bt408.1 bt408.2.1 bt408.2.2.1) else (if bt433.1 = bt435.1 then (if (bt437.2 != bt439.2) = true then (laws_FnShapes.j0 k bt408.2.2.2 bt417.1 bt417.2 bt421.1 bt429.1 bt435.1 bt439.1 true bt408.1 bt408.2.1 bt408.2.2.1) else (if bt437.1 = bt439.1 then (if (bt441.2 != bt443.2) = true then (laws_FnShapes.j0 k bt408.2.2.2 bt417.1 bt417.2 bt421.1 bt429.1 bt435.1 bt439.1 true bt408.1 bt408.2.1 bt408.2.2.1) else (if bt441.1.toList = bt443.1.toList then (if (bt445.2 != bt447.2) = true then (laws_FnShapes.j0 k bt408.2.2.2 bt417.1 bt417.2 bt421.1 bt429.1 bt435.1 bt439.1 true bt408.1 bt408.2.1 bt408.2.2.1) else (if (bt445.1 != bt447.1) = true then (laws_FnShapes.j0 k bt408.2.2.2 bt417.1 bt417.2 bt421.1 bt429.1 bt435.1 bt439.1 true bt408.1 bt408.2.1 bt408.2.2.1) else (laws_FnShapes.j0 k bt408.2.2.2 bt417.1 bt417.2 bt421.1 bt429.1 bt435.1 bt439.1 (bt417.2 != bt447.1) bt408.1 bt408.2.1 bt408.2.2.1))) else (laws_FnShapes.j0 k bt408.2.2.2 bt417.1 bt417.2 bt421.1 bt429.1 bt435.1 bt439.1 true bt408.1 bt408.2.1 bt408.2.2.1))) else (laws_FnShapes.j0 k bt408.2.2.2 bt417.1 bt417.2 bt421.1 bt429.1 bt435.1 bt439.1 true bt408.1 bt408.2.1 bt408.2.2.1))) else (laws_FnShapes.j0 k bt408.2.2.2 bt417.1 bt417.2 bt421.1 bt429.1 bt435.1 bt439.1 true bt408.1 bt408.2.1 bt408.2.2.1))) else (laws_FnShapes.j0 k bt408.2.2.2 bt417.1 bt417.2 bt421.1 bt429.1 bt435.1 bt439.1 true bt408.1 bt408.2.1 bt408.2.2.1)))) else (laws_FnShapes.j0 k bt408.2.2.2 bt417.1 bt417.2 bt421.1 bt429.1 bt435.1 bt439.1 true bt408.1 bt408.2.1 bt408.2.2.1))))))))))))))))))
set_option maxHeartbeats 8000000 in
set_option maxRecDepth 100000 in
theorem laws_FnShapes.calls (k : Nat) (A0 : Option Addr) (c0 : Nat) (l0 : List Int) (A1 : Option Addr) (c1 : Nat) (l1 : List Int) (r : Bool) (w : World) (hr0 : Kd.C (Kd.int .u8) w A0 l0.length l0) (hc0 : l0.length ≤ c0) (hr1 : Kd.C (Kd.int .u8) w A1 l1.length l1) (hc1 : l1.length ≤ c1) (h : laws_FnShapes.f k l0 l1 = some r) (hrt : Aside0 (r = true)) :
  Calls Try.prog 5 #[.slice A0 l0.length c0, .slice A1 l1.length c1] w fun e w' => e = .returned (.bool r) ∧ Below w.heap.size w w' := by
 have hu61 := Try.underlying61
 have HR0 := Aside0.mk hr0
 have HC0 := Aside0.mk hc0
 clear hr0 hc0
 have HR1 := Aside0.mk hr1
 have HC1 := Aside0.mk hc1
 clear hr1 hc1
 have HB := Aside0.mk (Below.refl w.heap.size w)
 have H : ((laws_big.f l0 l1).bind fun t407 => (if t407 = true then (some true) else ((spec_DrawGrowDug.f k l0).bind fun bt408 => ((impl_GrowDug.f k bt408.1 bt408.2.1 bt408.2.2.1 bt408.2.2.2).bind fun bt417 => ((spec_GrowDug.f k bt408.1 bt408.2.1 bt408.2.2.1 bt408.2.2.2).bind fun bt421 => ((impl_ShrinkDug.f k bt408.1 bt408.2.1 bt408.2.2.1 bt408.2.2.2).bind fun bt425 => ((spec_ShrinkDug.f k bt408.1 bt408.2.1 bt408.2.2.1 bt408.2.2.2).bind fun bt429 => ((impl_IslandsOf.f k bt408.1 bt408.2.1 bt408.2.2.1 bt408.2.2.2).bind fun bt433 => ((spec_IslandsOf.f k bt408.1 bt408.2.1 bt408.2.2.1 bt408.2.2.2).bind fun bt435 => ((impl_EdgesOf.f k bt408.1 bt408.2.1 bt408.2.2.1 bt408.2.2.2).bind fun bt437 => ((spec_EdgesOf.f k bt408.1 bt408.2.1 bt408.2.2.1 bt408.2.2.2).bind fun bt439 => ((impl_DigText.f k bt408.1 bt408.2.1 bt408.2.2.1 bt408.2.2.2).bind fun bt441 => ((spec_DigText.f k bt408.1 bt408.2.1 bt408.2.2.1 bt408.2.2.2).bind fun bt443 => ((impl_IsDug.f k bt408.1 bt408.2.1 bt408.2.2.1 bt408.2.2.2).bind fun bt445 => ((spec_IsDug.f k bt408.1 bt408.2.1 bt408.2.2.1 bt408.2.2.2).bind fun bt447 => (if (bt417.2 != bt421.2) = true then (laws_FnShapes.j0 k bt408.2.2.2 bt417.1 bt417.2 bt421.1 bt429.1 bt435.1 bt439.1 true bt408.1 bt408.2.1 bt408.2.2.1) else ((laws_pSameBools.f k bt417.1 bt421.1).bind fun t449 => (if t449 = true then (if (bt425.2 != bt429.2) = true then (laws_FnShapes.j0 k bt408.2.2.2 bt417.1 bt417.2 bt421.1 bt429.1 bt435.1 bt439.1 true bt408.1 bt408.2.1 bt408.2.2.1) else ((laws_pSameBools.f k bt425.1 bt429.1).bind fun t450 => (if t450 = true then (if (bt433.2 != bt435.2) = true then (laws_FnShapes.j0 k bt408.2.2.2 bt417.1 bt417.2 bt421.1 bt429.1 bt435.1 bt439.1 true bt408.1 bt408.2.1 bt408.2.2.1) else (if bt433.1 = bt435.1 then (if (bt437.2 != bt439.2) = true then (laws_FnShapes.j0 k bt408.2.2.2 bt417.1 bt417.2 bt421.1 bt429.1 bt435.1 bt439.1 true bt408.1 bt408.2.1 bt408.2.2.1) else (if bt437.1 = bt439.1 then (if (bt441.2 != bt443.2) = true then (laws_FnShapes.j0 k bt408.2.2.2 bt417.1 bt417.2 bt421.1 bt429.1 bt435.1 bt439.1 true bt408.1 bt408.2.1 bt408.2.2.1) else (if bt441.1.toList = bt443.1.toList then (if (bt445.2 != bt447.2) = true then (laws_FnShapes.j0 k bt408.2.2.2 bt417.1 bt417.2 bt421.1 bt429.1 bt435.1 bt439.1 true bt408.1 bt408.2.1 bt408.2.2.1) else (if (bt445.1 != bt447.1) = true then (laws_FnShapes.j0 k bt408.2.2.2 bt417.1 bt417.2 bt421.1 bt429.1 bt435.1 bt439.1 true bt408.1 bt408.2.1 bt408.2.2.1) else (laws_FnShapes.j0 k bt408.2.2.2 bt417.1 bt417.2 bt421.1 bt429.1 bt435.1 bt439.1 (bt417.2 != bt447.1) bt408.1 bt408.2.1 bt408.2.2.1))) else (laws_FnShapes.j0 k bt408.2.2.2 bt417.1 bt417.2 bt421.1 bt429.1 bt435.1 bt439.1 true bt408.1 bt408.2.1 bt408.2.2.1))) else (laws_FnShapes.j0 k bt408.2.2.2 bt417.1 bt417.2 bt421.1 bt429.1 bt435.1 bt439.1 true bt408.1 bt408.2.1 bt408.2.2.1))) else (laws_FnShapes.j0 k bt408.2.2.2 bt417.1 bt417.2 bt421.1 bt429.1 bt435.1 bt439.1 true bt408.1 bt408.2.1 bt408.2.2.1))) else (laws_FnShapes.j0 k bt408.2.2.2 bt417.1 bt417.2 bt421.1 bt429.1 bt435.1 bt439.1 true bt408.1 bt408.2.1 bt408.2.2.1)))) else (laws_FnShapes.j0 k bt408.2.2.2 bt417.1 bt417.2 bt421.1 bt429.1 bt435.1 bt439.1 true bt408.1 bt408.2.1 bt408.2.2.1))))))))))))))))))) = some r := h
 clear h
 replace H := Option.bind_eq_some_iff.mp H
 obtain ⟨t407, A30, H⟩ := H
 have A3 := Aside0.mk A30
 clear A30
 by_cases c4 : t407 = true
 ·subst c4
  have H1 : (some true) = some r := by rw [if_pos rfl] at H; exact H
  clear H
  have H := H1
  clear H1
  obtain rfl := Option.some.inj H
  go_enter Try.func5, Try.ntmps5
  go_wp2_with (first | ((with_reducible refine gate_callee (f := 41) rfl ?_); refine goesL_ (some 40) rfl rfl Try.func41 (by kernel_rfl) rfl #[.slice A0 l0.length c0, .slice A1 l1.length c1] rfl mpx12 ?_; (with_reducible refine (laws_big.calls _ _ l0 _ _ l1 true _ ?side1 ?side2 ?side3 ?side4 A3.out).mono ?_); (case side1 => repeat (first | exact HR0.out | (with_reducible refine Kd.C_alloc ?_ _) | (with_reducible refine Kd.C_drewN ?_ _) | (with_reducible refine Kd.C_drew ?_))); (case side2 => exact HC0.out); (case side3 => repeat (first | exact HR1.out | (with_reducible refine Kd.C_alloc ?_ _) | (with_reducible refine Kd.C_drewN ?_ _) | (with_reducible refine Kd.C_drew ?_))); (case side4 => exact HC1.out); rintro e w' ⟨rfl, ⟨nd, rfl⟩⟩; refine ⟨_, rfl, ?_⟩))
  go_ret
  exact ⟨by first | rfl | (simp [errW_none, errW_some] <;> rfl) | (simp [*, errW_none, errW_some] <;> rfl), be0x12 HB.out⟩
 ·replace c4 := Bool.eq_false_iff.mpr c4
  subst c4
  have H1 : ((spec_DrawGrowDug.f k l0).bind fun bt408 => ((impl_GrowDug.f k bt408.1 bt408.2.1 bt408.2.2.1 bt408.2.2.2).bind fun bt417 => ((spec_GrowDug.f k bt408.1 bt408.2.1 bt408.2.2.1 bt408.2.2.2).bind fun bt421 => ((impl_ShrinkDug.f k bt408.1 bt408.2.1 bt408.2.2.1 bt408.2.2.2).bind fun bt425 => ((spec_ShrinkDug.f k bt408.1 bt408.2.1 bt408.2.2.1 bt408.2.2.2).bind fun bt429 => ((impl_IslandsOf.f k bt408.1 bt408.2.1 bt408.2.2.1 bt408.2.2.2).bind fun bt433 => ((spec_IslandsOf.f k bt408.1 bt408.2.1 bt408.2.2.1 bt408.2.2.2).bind fun bt435 => ((impl_EdgesOf.f k bt408.1 bt408.2.1 bt408.2.2.1 bt408.2.2.2).bind fun bt437 => ((spec_EdgesOf.f k bt408.1 bt408.2.1 bt408.2.2.1 bt408.2.2.2).bind fun bt439 => ((impl_DigText.f k bt408.1 bt408.2.1 bt408.2.2.1 bt408.2.2.2).bind fun bt441 => ((spec_DigText.f k bt408.1 bt408.2.1 bt408.2.2.1 bt408.2.2.2).bind fun bt443 => ((impl_IsDug.f k bt408.1 bt408.2.1 bt408.2.2.1 bt408.2.2.2).bind fun bt445 => ((spec_IsDug.f k bt408.1 bt408.2.1 bt408.2.2.1 bt408.2.2.2).bind fun bt447 => (if (bt417.2 != bt421.2) = true then (laws_FnShapes.j0 k bt408.2.2.2 bt417.1 bt417.2 bt421.1 bt429.1 bt435.1 bt439.1 true bt408.1 bt408.2.1 bt408.2.2.1) else ((laws_pSameBools.f k bt417.1 bt421.1).bind fun t449 => (if t449 = true then (if (bt425.2 != bt429.2) = true then (laws_FnShapes.j0 k bt408.2.2.2 bt417.1 bt417.2 bt421.1 bt429.1 bt435.1 bt439.1 true bt408.1 bt408.2.1 bt408.2.2.1) else ((laws_pSameBools.f k bt425.1 bt429.1).bind fun t450 => (if t450 = true then (if (bt433.2 != bt435.2) = true then (laws_FnShapes.j0 k bt408.2.2.2 bt417.1 bt417.2 bt421.1 bt429.1 bt435.1 bt439.1 true bt408.1 bt408.2.1 bt408.2.2.1) else (if bt433.1 = bt435.1 then (if (bt437.2 != bt439.2) = true then (laws_FnShapes.j0 k bt408.2.2.2 bt417.1 bt417.2 bt421.1 bt429.1 bt435.1 bt439.1 true bt408.1 bt408.2.1 bt408.2.2.1) else (if bt437.1 = bt439.1 then (if (bt441.2 != bt443.2) = true then (laws_FnShapes.j0 k bt408.2.2.2 bt417.1 bt417.2 bt421.1 bt429.1 bt435.1 bt439.1 true bt408.1 bt408.2.1 bt408.2.2.1) else (if bt441.1.toList = bt443.1.toList then (if (bt445.2 != bt447.2) = true then (laws_FnShapes.j0 k bt408.2.2.2 bt417.1 bt417.2 bt421.1 bt429.1 bt435.1 bt439.1 true bt408.1 bt408.2.1 bt408.2.2.1) else (if (bt445.1 != bt447.1) = true then (laws_FnShapes.j0 k bt408.2.2.2 bt417.1 bt417.2 bt421.1 bt429.1 bt435.1 bt439.1 true bt408.1 bt408.2.1 bt408.2.2.1) else (laws_FnShapes.j0 k bt408.2.2.2 bt417.1 bt417.2 bt421.1 bt429.1 bt435.1 bt439.1 (bt417.2 != bt447.1) bt408.1 bt408.2.1 bt408.2.2.1))) else (laws_FnShapes.j0 k bt408.2.2.2 bt417.1 bt417.2 bt421.1 bt429.1 bt435.1 bt439.1 true bt408.1 bt408.2.1 bt408.2.2.1))) else (laws_FnShapes.j0 k bt408.2.2.2 bt417.1 bt417.2 bt421.1 bt429.1 bt435.1 bt439.1 true bt408.1 bt408.2.1 bt408.2.2.1))) else (laws_FnShapes.j0 k bt408.2.2.2 bt417.1 bt417.2 bt421.1 bt429.1 bt435.1 bt439.1 true bt408.1 bt408.2.1 bt408.2.2.1))) else (laws_FnShapes.j0 k bt408.2.2.2 bt417.1 bt417.2 bt421.1 bt429.1 bt435.1 bt439.1 true bt408.1 bt408.2.1 bt408.2.2.1)))) else (laws_FnShapes.j0 k bt408.2.2.2 bt417.1 bt417.2 bt421.1 bt429.1 bt435.1 bt439.1 true bt408.1 bt408.2.1 bt408.2.2.1))))))))))))))))) = some r := by rw [if_neg (show ¬ (false = true) by decide)] at H; exact H
  clear H
  have H := H1
  clear H1
  replace H := Option.bind_eq_some_iff.mp H
  obtain ⟨⟨t408, t409, t410, t413⟩, A50, H⟩ := H
  (try dsimp only at H)
  have A5 := Aside0.mk A50
  clear A50
  replace H := Option.bind_eq_some_iff.mp H
  obtain ⟨⟨t417, t420⟩, A60, H⟩ := H
  (try dsimp only at H)
  have A6 := Aside0.mk A60
  clear A60
  replace H := Option.bind_eq_some_iff.mp H
  obtain ⟨⟨t421, t424⟩, A70, H⟩ := H
  (try dsimp only at H)
  have A7 := Aside0.mk A70
  clear A70
  replace H := Option.bind_eq_some_iff.mp H
  obtain ⟨⟨t425, t428⟩, A80, H⟩ := H
  (try dsimp only at H)
  have A8 := Aside0.mk A80
  clear A80
  replace H := Option.bind_eq_some_iff.mp H
  obtain ⟨⟨t429, t432⟩, A90, H⟩ := H
  (try dsimp only at H)
  have A9 := Aside0.mk A90
  clear A90
  replace H := Option.bind_eq_some_iff.mp H
  obtain ⟨⟨t433, t434⟩, A100, H⟩ := H
  (try dsimp only at H)
  have A10 := Aside0.mk A100
  clear A100
  replace H := Option.bind_eq_some_iff.mp H
  obtain ⟨⟨t435, t436⟩, A110, H⟩ := H
  (try dsimp only at H)
  have A11 := Aside0.mk A110
  clear A110
  replace H := Option.bind_eq_some_iff.mp H
  obtain ⟨⟨t437, t438⟩, A120, H⟩ := H
  (try dsimp only at H)
  have A12 := Aside0.mk A120
  clear A120
  replace H := Option.bind_eq_some_iff.mp H
  obtain ⟨⟨t439, t440⟩, A130, H⟩ := H
  (try dsimp only at H)
  have A13 := Aside0.mk A130
  clear A130
  replace H := Option.bind_eq_some_iff.mp H
  obtain ⟨⟨t441, t442⟩, A140, H⟩ := H
  (try dsimp only at H)
  have A14 := Aside0.mk A140
  clear A140
  replace H := Option.bind_eq_some_iff.mp H
  obtain ⟨⟨t443, t444⟩, A150, H⟩ := H
  (try dsimp only at H)
  have A15 := Aside0.mk A150
  clear A150
  replace H := Option.bind_eq_some_iff.mp H
  obtain ⟨⟨t445, t446⟩, A160, H⟩ := H
  (try dsimp only at H)
  have A16 := Aside0.mk A160
  clear A160
  replace H := Option.bind_eq_some_iff.mp H
  obtain ⟨⟨t447, t448⟩, A170, H⟩ := H
  (try dsimp only at H)
  have A17 := Aside0.mk A170
  clear A170
  have HC18 := Aside0.mk H
  clear H
  go_enter Try.func5, Try.ntmps5
  go_upto_region 16 with (first | ((with_reducible refine gate_callee (f := 41) rfl ?_); refine goesL_ (some 40) rfl rfl Try.func41 (by kernel_rfl) rfl #[.slice A0 l0.length c0, .slice A1 l1.length c1] rfl mpx12 ?_; (with_reducible refine (laws_big.calls _ _ l0 _ _ l1 false _ ?side1 ?side2 ?side3 ?side4 A3.out).mono ?_); (case side1 => repeat (first | exact HR0.out | (with_reducible refine Kd.C_alloc ?_ _) | (with_reducible refine Kd.C_drewN ?_ _) | (with_reducible refine Kd.C_drew ?_))); (case side2 => exact HC0.out); (case side3 => repeat (first | exact HR1.out | (with_reducible refine Kd.C_alloc ?_ _) | (with_reducible refine Kd.C_drewN ?_ _) | (with_reducible refine Kd.C_drew ?_))); (case side4 => exact HC1.out); rintro e w' ⟨rfl, ⟨nd, rfl⟩⟩; refine ⟨_, rfl, ?_⟩) | ((with_reducible refine gate_callee (f := 42) rfl ?_); refine goesL_ (some 43) rfl rfl Try.func42 (by kernel_rfl) rfl #[.slice A0 l0.length c0] rfl mpx12 ?_; (with_reducible refine (spec_DrawGrowDug.calls k _ _ l0 t408 t409 t410 t413 _ ?side1 ?side2 A5.out).mono ?_); (case side1 => repeat (first | exact HR0.out | (with_reducible refine Kd.C_alloc ?_ _) | (with_reducible refine Kd.C_drewN ?_ _) | (with_reducible refine Kd.C_drew ?_))); (case side2 => exact HC0.out); rintro e w19 ⟨v411, v414, rfl, ho0, ho1, hb⟩; refine ⟨_, rfl, ?_⟩; have HO412 := Aside0.mk (Kd.R_lower ho0 (below_size (be0x12 HB.out))); have HO415 := Aside0.mk (Kd.R_lower ho1 (below_size (be0x12 HB.out))); replace HB := Aside0.mk (below_step (be0x12 HB.out) hb); (try clear hb); (try clear hb2); (try clear hk); (try clear hi); (try clear ho0); (try clear ho1)) | ((with_reducible refine gate_dst (N := 5) rfl ?_); (try (refine gate_guard (by rfl) ?_; dsimp only)); refine box_event ?hg (N := 5) ?hd (cs := #[.int .i64 0, .int .i64 0, .slice none 0 0]) (t := 61) ?hr ?_; (case hd => rfl); (case hg => rfl); (case hr => first | (go_simp; done) | (go_simp; rfl)); intro gb416 hg w20 hbox hb; replace HO412 := Aside0.mk (Kd.R_below (rRx12 HO412.out) hb); replace HO415 := Aside0.mk (Kd.R_below (rRx12 HO415.out) hb); have BK416 := Aside0.mk (hbox); have GW416 := Aside0.mk ((by rw [hg]; exact (below_size (be0x12 HB.out)) : w.heap.size ≤ gb416)); have GE416 := Aside0.mk ((by rw [hg]; exact (below_size (be0x12 HB.out)) : w.heap.size ≤ gb416)); replace HB := Aside0.mk (below_step (be0x12 HB.out) hb); clear hb hbox hg; obtain ⟨hcz21_0, hcz21_1, hcz21_2, hfz21_0, hfz21_1, hfz21_2⟩ := cf3x12 BK416.out; obtain ⟨Ao22, co22, eo22⟩ := Kd.R_slice HO412.out; subst eo22; obtain ⟨Ao23, co23, eo23⟩ := Kd.R_slice HO415.out; subst eo23) | ((with_reducible refine gate_callee (f := 43) rfl ?_); refine goesL_ (some 49) rfl rfl Try.func43 (by kernel_rfl) rfl #[.agg #[.int .i64 t408, .int .i64 t409, .slice Ao22 t410.length co22], .slice Ao23 t413.length co23] rfl mpx12 ?_; (with_reducible refine (impl_GrowDug.calls k t408 t409 _ _ t410 _ _ t413 t417 t420 _ ?side1 ?side2 ?side3 ?side4 A6.out).mono ?_); (case side1 => exact cS3x12 HO412.out BK416.out); (case side2 => exact (Kd.R_reads' HO412.out).2.1); (case side3 => exact cS3x12 HO415.out BK416.out); (case side4 => exact (Kd.R_reads' HO415.out).2.1); rintro e w24 ⟨v418, rfl, ho0, hb⟩; refine ⟨_, rfl, ?_⟩; replace HO412 := Aside0.mk (Kd.R_below (sR3x12 HO412.out BK416.out) hb); have HO419 := Aside0.mk (Kd.R_lower (nwx12 ho0 (sR3x12 HO415.out BK416.out)) (below_size (be1x12 HB.out GE416.out))); replace HO415 := Aside0.mk (Kd.R_elder' (sR3x12 HO415.out BK416.out) (Kd.R_base ho0) hb); replace BK416 := Aside0.mk (blk_below (g := gb416) (o := .cells #[.int .i64 t408, .int .i64 t409, .slice Ao22 t410.length co22] 61 (0, 0)) (by (with_reducible repeat (first | refine blk_drewN ?_ _ | refine blk_drew ?_ | refine blk_alloc ?_ _)); refine blk_put (cs := #[.int .i64 t408, .int .i64 t409, .slice none 0 0]) ?_ 2 _ rfl; (with_reducible repeat (first | refine blk_drewN ?_ _ | refine blk_drew ?_ | refine blk_alloc ?_ _)); refine blk_put (cs := #[.int .i64 t408, .int .i64 0, .slice none 0 0]) ?_ 1 _ rfl; (with_reducible repeat (first | refine blk_drewN ?_ _ | refine blk_drew ?_ | refine blk_alloc ?_ _)); refine blk_put (cs := #[.int .i64 0, .int .i64 0, .slice none 0 0]) ?_ 0 _ rfl; (with_reducible repeat (first | refine blk_drewN ?_ _ | refine blk_drew ?_ | refine blk_alloc ?_ _)); exact BK416.out) hb); replace HB := Aside0.mk (below_step (be1x12 HB.out GE416.out) hb); (try clear hb); (try clear hb2); (try clear hk); (try clear hi); (try clear ho0); obtain ⟨hcz25_0, hcz25_1, hcz25_2, hfz25_0, hfz25_1, hfz25_2⟩ := cf3x12 BK416.out) | ((with_reducible refine gate_callee (f := 44) rfl ?_); refine goesL_ (some 55) rfl rfl Try.func44 (by kernel_rfl) rfl #[.agg #[.int .i64 t408, .int .i64 t409, .slice Ao22 t410.length co22], .slice Ao23 t413.length co23] rfl mpx12 ?_; (with_reducible refine (spec_GrowDug.calls k t408 t409 _ _ t410 _ _ t413 t421 t424 _ ?side1 ?side2 ?side3 ?side4 A7.out).mono ?_); (case side1 => exact cRx12 HO412.out); (case side2 => exact (Kd.R_reads' HO412.out).2.1); (case side3 => exact cRx12 HO415.out); (case side4 => exact (Kd.R_reads' HO415.out).2.1); rintro e w26 ⟨v422, rfl, ho0, hb⟩; refine ⟨_, rfl, ?_⟩; replace HO412 := Aside0.mk (Kd.R_below (rRx12 HO412.out) hb); have HO423 := Aside0.mk (Kd.R_lower (nwx12 (nwx12 ho0 (rRx12 HO415.out)) (rRx12 HO419.out)) (below_size (be1x12 HB.out GE416.out))); replace HO415 := Aside0.mk (Kd.R_elder' (rRx12 HO415.out) (Kd.R_base ho0) hb); replace HO419 := Aside0.mk (Kd.R_elder' (rRx12 HO419.out) (Kd.R_base ho0) hb); replace BK416 := Aside0.mk (blk_below (rBx12 BK416.out) hb); replace HB := Aside0.mk (below_step (be1x12 HB.out GE416.out) hb); (try clear hb); (try clear hb2); (try clear hk); (try clear hi); (try clear ho0); obtain ⟨hcz27_0, hcz27_1, hcz27_2, hfz27_0, hfz27_1, hfz27_2⟩ := cf3x12 BK416.out) | ((with_reducible refine gate_callee (f := 45) rfl ?_); refine goesL_ (some 61) rfl rfl Try.func45 (by kernel_rfl) rfl #[.agg #[.int .i64 t408, .int .i64 t409, .slice Ao22 t410.length co22], .slice Ao23 t413.length co23] rfl mpx12 ?_; (with_reducible refine (impl_ShrinkDug.calls k t408 t409 _ _ t410 _ _ t413 t425 t428 _ ?side1 ?side2 ?side3 ?side4 A8.out).mono ?_); (case side1 => exact cRx12 HO412.out); (case side2 => exact (Kd.R_reads' HO412.out).2.1); (case side3 => exact cRx12 HO415.out); (case side4 => exact (Kd.R_reads' HO415.out).2.1); rintro e w28 ⟨v426, rfl, ho0, hb⟩; refine ⟨_, rfl, ?_⟩; replace HO412 := Aside0.mk (Kd.R_below (rRx12 HO412.out) hb); have HO427 := Aside0.mk (Kd.R_lower (nwx12 (nwx12 (nwx12 ho0 (rRx12 HO415.out)) (rRx12 HO419.out)) (rRx12 HO423.out)) (below_size (be1x12 HB.out GE416.out))); replace HO415 := Aside0.mk (Kd.R_elder' (rRx12 HO415.out) (Kd.R_base ho0) hb); replace HO419 := Aside0.mk (Kd.R_elder' (rRx12 HO419.out) (Kd.R_base ho0) hb); replace HO423 := Aside0.mk (Kd.R_elder' (rRx12 HO423.out) (Kd.R_base ho0) hb); replace BK416 := Aside0.mk (blk_below (rBx12 BK416.out) hb); replace HB := Aside0.mk (below_step (be1x12 HB.out GE416.out) hb); (try clear hb); (try clear hb2); (try clear hk); (try clear hi); (try clear ho0); obtain ⟨hcz29_0, hcz29_1, hcz29_2, hfz29_0, hfz29_1, hfz29_2⟩ := cf3x12 BK416.out) | ((with_reducible refine gate_callee (f := 46) rfl ?_); refine goesL_ (some 67) rfl rfl Try.func46 (by kernel_rfl) rfl #[.agg #[.int .i64 t408, .int .i64 t409, .slice Ao22 t410.length co22], .slice Ao23 t413.length co23] rfl mpx12 ?_; (with_reducible refine (spec_ShrinkDug.calls k t408 t409 _ _ t410 _ _ t413 t429 t432 _ ?side1 ?side2 ?side3 ?side4 A9.out).mono ?_); (case side1 => exact cRx12 HO412.out); (case side2 => exact (Kd.R_reads' HO412.out).2.1); (case side3 => exact cRx12 HO415.out); (case side4 => exact (Kd.R_reads' HO415.out).2.1); rintro e w30 ⟨v430, rfl, ho0, hb⟩; refine ⟨_, rfl, ?_⟩; replace HO412 := Aside0.mk (Kd.R_below (rRx12 HO412.out) hb); have HO431 := Aside0.mk (Kd.R_lower (nwx12 (nwx12 (nwx12 (nwx12 ho0 (rRx12 HO415.out)) (rRx12 HO419.out)) (rRx12 HO423.out)) (rRx12 HO427.out)) (below_size (be1x12 HB.out GE416.out))); replace HO415 := Aside0.mk (Kd.R_elder' (rRx12 HO415.out) (Kd.R_base ho0) hb); replace HO419 := Aside0.mk (Kd.R_elder' (rRx12 HO419.out) (Kd.R_base ho0) hb); replace HO423 := Aside0.mk (Kd.R_elder' (rRx12 HO423.out) (Kd.R_base ho0) hb); replace HO427 := Aside0.mk (Kd.R_elder' (rRx12 HO427.out) (Kd.R_base ho0) hb); replace BK416 := Aside0.mk (blk_below (rBx12 BK416.out) hb); replace HB := Aside0.mk (below_step (be1x12 HB.out GE416.out) hb); (try clear hb); (try clear hb2); (try clear hk); (try clear hi); (try clear ho0); obtain ⟨hcz31_0, hcz31_1, hcz31_2, hfz31_0, hfz31_1, hfz31_2⟩ := cf3x12 BK416.out) | ((with_reducible refine gate_callee (f := 47) rfl ?_); refine goesL_ (some 73) rfl rfl Try.func47 (by kernel_rfl) rfl #[.agg #[.int .i64 t408, .int .i64 t409, .slice Ao22 t410.length co22], .slice Ao23 t413.length co23] rfl mpx12 ?_; (with_reducible refine (impl_IslandsOf.calls k t408 t409 _ _ t410 _ _ t413 t433 t434 _ ?side1 ?side2 ?side3 ?side4 A10.out).mono ?_); (case side1 => exact cRx12 HO412.out); (case side2 => exact (Kd.R_reads' HO412.out).2.1); (case side3 => exact cRx12 HO415.out); (case side4 => exact (Kd.R_reads' HO415.out).2.1); rintro e w32 ⟨rfl, hb⟩; refine ⟨_, rfl, ?_⟩; replace HO412 := Aside0.mk (Kd.R_below (rRx12 HO412.out) hb); replace HO415 := Aside0.mk (Kd.R_below (rRx12 HO415.out) hb); replace HO419 := Aside0.mk (Kd.R_below (rRx12 HO419.out) hb); replace HO423 := Aside0.mk (Kd.R_below (rRx12 HO423.out) hb); replace HO427 := Aside0.mk (Kd.R_below (rRx12 HO427.out) hb); replace HO431 := Aside0.mk (Kd.R_below (rRx12 HO431.out) hb); replace BK416 := Aside0.mk (blk_below (rBx12 BK416.out) hb); replace HB := Aside0.mk (below_step (be1x12 HB.out GE416.out) hb); (try clear hb); (try clear hb2); (try clear hk); (try clear hi); obtain ⟨hcz33_0, hcz33_1, hcz33_2, hfz33_0, hfz33_1, hfz33_2⟩ := cf3x12 BK416.out) | ((with_reducible refine gate_callee (f := 48) rfl ?_); refine goesL_ (some 79) rfl rfl Try.func48 (by kernel_rfl) rfl #[.agg #[.int .i64 t408, .int .i64 t409, .slice Ao22 t410.length co22], .slice Ao23 t413.length co23] rfl mpx12 ?_; (with_reducible refine (spec_IslandsOf.calls k t408 t409 _ _ t410 _ _ t413 t435 t436 _ ?side1 ?side2 ?side3 ?side4 A11.out).mono ?_); (case side1 => exact cRx12 HO412.out); (case side2 => exact (Kd.R_reads' HO412.out).2.1); (case side3 => exact cRx12 HO415.out); (case side4 => exact (Kd.R_reads' HO415.out).2.1); rintro e w34 ⟨rfl, hb⟩; refine ⟨_, rfl, ?_⟩; replace HO412 := Aside0.mk (Kd.R_below (rRx12 HO412.out) hb); replace HO415 := Aside0.mk (Kd.R_below (rRx12 HO415.out) hb); replace HO419 := Aside0.mk (Kd.R_below (rRx12 HO419.out) hb); replace HO423 := Aside0.mk (Kd.R_below (rRx12 HO423.out) hb); replace HO427 := Aside0.mk (Kd.R_below (rRx12 HO427.out) hb); replace HO431 := Aside0.mk (Kd.R_below (rRx12 HO431.out) hb); replace BK416 := Aside0.mk (blk_below (rBx12 BK416.out) hb); replace HB := Aside0.mk (below_step (be1x12 HB.out GE416.out) hb); (try clear hb); (try clear hb2); (try clear hk); (try clear hi); obtain ⟨hcz35_0, hcz35_1, hcz35_2, hfz35_0, hfz35_1, hfz35_2⟩ := cf3x12 BK416.out) | ((with_reducible refine gate_callee (f := 49) rfl ?_); refine goesL_ (some 85) rfl rfl Try.func49 (by kernel_rfl) rfl #[.agg #[.int .i64 t408, .int .i64 t409, .slice Ao22 t410.length co22], .slice Ao23 t413.length co23] rfl mpx12 ?_; (with_reducible refine (impl_EdgesOf.calls k t408 t409 _ _ t410 _ _ t413 t437 t438 _ ?side1 ?side2 ?side3 ?side4 A12.out).mono ?_); (case side1 => exact cRx12 HO412.out); (case side2 => exact (Kd.R_reads' HO412.out).2.1); (case side3 => exact cRx12 HO415.out); (case side4 => exact (Kd.R_reads' HO415.out).2.1); rintro e w36 ⟨rfl, hb⟩; refine ⟨_, rfl, ?_⟩; replace HO412 := Aside0.mk (Kd.R_below (rRx12 HO412.out) hb); replace HO415 := Aside0.mk (Kd.R_below (rRx12 HO415.out) hb); replace HO419 := Aside0.mk (Kd.R_below (rRx12 HO419.out) hb); replace HO423 := Aside0.mk (Kd.R_below (rRx12 HO423.out) hb); replace HO427 := Aside0.mk (Kd.R_below (rRx12 HO427.out) hb); replace HO431 := Aside0.mk (Kd.R_below (rRx12 HO431.out) hb); replace BK416 := Aside0.mk (blk_below (rBx12 BK416.out) hb); replace HB := Aside0.mk (below_step (be1x12 HB.out GE416.out) hb); (try clear hb); (try clear hb2); (try clear hk); (try clear hi); obtain ⟨hcz37_0, hcz37_1, hcz37_2, hfz37_0, hfz37_1, hfz37_2⟩ := cf3x12 BK416.out) | ((with_reducible refine gate_callee (f := 50) rfl ?_); refine goesL_ (some 91) rfl rfl Try.func50 (by kernel_rfl) rfl #[.agg #[.int .i64 t408, .int .i64 t409, .slice Ao22 t410.length co22], .slice Ao23 t413.length co23] rfl mpx12 ?_; (with_reducible refine (spec_EdgesOf.calls k t408 t409 _ _ t410 _ _ t413 t439 t440 _ ?side1 ?side2 ?side3 ?side4 A13.out).mono ?_); (case side1 => exact cRx12 HO412.out); (case side2 => exact (Kd.R_reads' HO412.out).2.1); (case side3 => exact cRx12 HO415.out); (case side4 => exact (Kd.R_reads' HO415.out).2.1); rintro e w38 ⟨rfl, hb⟩; refine ⟨_, rfl, ?_⟩; replace HO412 := Aside0.mk (Kd.R_below (rRx12 HO412.out) hb); replace HO415 := Aside0.mk (Kd.R_below (rRx12 HO415.out) hb); replace HO419 := Aside0.mk (Kd.R_below (rRx12 HO419.out) hb); replace HO423 := Aside0.mk (Kd.R_below (rRx12 HO423.out) hb); replace HO427 := Aside0.mk (Kd.R_below (rRx12 HO427.out) hb); replace HO431 := Aside0.mk (Kd.R_below (rRx12 HO431.out) hb); replace BK416 := Aside0.mk (blk_below (rBx12 BK416.out) hb); replace HB := Aside0.mk (below_step (be1x12 HB.out GE416.out) hb); (try clear hb); (try clear hb2); (try clear hk); (try clear hi); obtain ⟨hcz39_0, hcz39_1, hcz39_2, hfz39_0, hfz39_1, hfz39_2⟩ := cf3x12 BK416.out) | ((with_reducible refine gate_callee (f := 51) rfl ?_); refine goesL_ (some 97) rfl rfl Try.func51 (by kernel_rfl) rfl #[.agg #[.int .i64 t408, .int .i64 t409, .slice Ao22 t410.length co22], .slice Ao23 t413.length co23] rfl mpx12 ?_; (with_reducible refine (impl_DigText.calls k t408 t409 _ _ t410 _ _ t413 t441 t442 _ ?side1 ?side2 ?side3 ?side4 A14.out).mono ?_); (case side1 => exact cRx12 HO412.out); (case side2 => exact (Kd.R_reads' HO412.out).2.1); (case side3 => exact cRx12 HO415.out); (case side4 => exact (Kd.R_reads' HO415.out).2.1); rintro e w40 ⟨rfl, hb⟩; refine ⟨_, rfl, ?_⟩; replace HO412 := Aside0.mk (Kd.R_below (rRx12 HO412.out) hb); replace HO415 := Aside0.mk (Kd.R_below (rRx12 HO415.out) hb); replace HO419 := Aside0.mk (Kd.R_below (rRx12 HO419.out) hb); replace HO423 := Aside0.mk (Kd.R_below (rRx12 HO423.out) hb); replace HO427 := Aside0.mk (Kd.R_below (rRx12 HO427.out) hb); replace HO431 := Aside0.mk (Kd.R_below (rRx12 HO431.out) hb); replace BK416 := Aside0.mk (blk_below (rBx12 BK416.out) hb); replace HB := Aside0.mk (below_step (be1x12 HB.out GE416.out) hb); (try clear hb); (try clear hb2); (try clear hk); (try clear hi); obtain ⟨hcz41_0, hcz41_1, hcz41_2, hfz41_0, hfz41_1, hfz41_2⟩ := cf3x12 BK416.out) | ((with_reducible refine gate_callee (f := 52) rfl ?_); refine goesL_ (some 103) rfl rfl Try.func52 (by kernel_rfl) rfl #[.agg #[.int .i64 t408, .int .i64 t409, .slice Ao22 t410.length co22], .slice Ao23 t413.length co23] rfl mpx12 ?_; (with_reducible refine (spec_DigText.calls k t408 t409 _ _ t410 _ _ t413 t443 t444 _ ?side1 ?side2 ?side3 ?side4 A15.out).mono ?_); (case side1 => exact cRx12 HO412.out); (case side2 => exact (Kd.R_reads' HO412.out).2.1); (case side3 => exact cRx12 HO415.out); (case side4 => exact (Kd.R_reads' HO415.out).2.1); rintro e w42 ⟨rfl, hb⟩; refine ⟨_, rfl, ?_⟩; replace HO412 := Aside0.mk (Kd.R_below (rRx12 HO412.out) hb); replace HO415 := Aside0.mk (Kd.R_below (rRx12 HO415.out) hb); replace HO419 := Aside0.mk (Kd.R_below (rRx12 HO419.out) hb); replace HO423 := Aside0.mk (Kd.R_below (rRx12 HO423.out) hb); replace HO427 := Aside0.mk (Kd.R_below (rRx12 HO427.out) hb); replace HO431 := Aside0.mk (Kd.R_below (rRx12 HO431.out) hb); replace BK416 := Aside0.mk (blk_below (rBx12 BK416.out) hb); replace HB := Aside0.mk (below_step (be1x12 HB.out GE416.out) hb); (try clear hb); (try clear hb2); (try clear hk); (try clear hi); obtain ⟨hcz43_0, hcz43_1, hcz43_2, hfz43_0, hfz43_1, hfz43_2⟩ := cf3x12 BK416.out) | ((with_reducible refine gate_callee (f := 53) rfl ?_); refine goesL_ (some 109) rfl rfl Try.func53 (by kernel_rfl) rfl #[.agg #[.int .i64 t408, .int .i64 t409, .slice Ao22 t410.length co22], .slice Ao23 t413.length co23] rfl mpx12 ?_; (with_reducible refine (impl_IsDug.calls k t408 t409 _ _ t410 _ _ t413 t445 t446 _ ?side1 ?side2 ?side3 ?side4 A16.out).mono ?_); (case side1 => exact cRx12 HO412.out); (case side2 => exact (Kd.R_reads' HO412.out).2.1); (case side3 => exact cRx12 HO415.out); (case side4 => exact (Kd.R_reads' HO415.out).2.1); rintro e w44 ⟨rfl, hb⟩; refine ⟨_, rfl, ?_⟩; replace HO412 := Aside0.mk (Kd.R_below (rRx12 HO412.out) hb); replace HO415 := Aside0.mk (Kd.R_below (rRx12 HO415.out) hb); replace HO419 := Aside0.mk (Kd.R_below (rRx12 HO419.out) hb); replace HO423 := Aside0.mk (Kd.R_below (rRx12 HO423.out) hb); replace HO427 := Aside0.mk (Kd.R_below (rRx12 HO427.out) hb); replace HO431 := Aside0.mk (Kd.R_below (rRx12 HO431.out) hb); replace BK416 := Aside0.mk (blk_below (rBx12 BK416.out) hb); replace HB := Aside0.mk (below_step (be1x12 HB.out GE416.out) hb); (try clear hb); (try clear hb2); (try clear hk); (try clear hi); obtain ⟨hcz45_0, hcz45_1, hcz45_2, hfz45_0, hfz45_1, hfz45_2⟩ := cf3x12 BK416.out) | ((with_reducible refine gate_callee (f := 54) rfl ?_); refine goesL_ (some 115) rfl rfl Try.func54 (by kernel_rfl) rfl #[.agg #[.int .i64 t408, .int .i64 t409, .slice Ao22 t410.length co22], .slice Ao23 t413.length co23] rfl mpx12 ?_; (with_reducible refine (spec_IsDug.calls k t408 t409 _ _ t410 _ _ t413 t447 t448 _ ?side1 ?side2 ?side3 ?side4 A17.out).mono ?_); (case side1 => exact cRx12 HO412.out); (case side2 => exact (Kd.R_reads' HO412.out).2.1); (case side3 => exact cRx12 HO415.out); (case side4 => exact (Kd.R_reads' HO415.out).2.1); rintro e w46 ⟨rfl, hb⟩; refine ⟨_, rfl, ?_⟩; replace HO412 := Aside0.mk (Kd.R_below (rRx12 HO412.out) hb); replace HO415 := Aside0.mk (Kd.R_below (rRx12 HO415.out) hb); replace HO419 := Aside0.mk (Kd.R_below (rRx12 HO419.out) hb); replace HO423 := Aside0.mk (Kd.R_below (rRx12 HO423.out) hb); replace HO427 := Aside0.mk (Kd.R_below (rRx12 HO427.out) hb); replace HO431 := Aside0.mk (Kd.R_below (rRx12 HO431.out) hb); replace BK416 := Aside0.mk (blk_below (rBx12 BK416.out) hb); replace HB := Aside0.mk (below_step (be1x12 HB.out GE416.out) hb); (try clear hb); (try clear hb2); (try clear hk); (try clear hi)))
  (try simp only [Act.put, List.setIfInBounds_toArray, List.set_cons_zero, List.set_cons_succ])
  go_cut [182] (fun v182 wc => ∃ (kq : Nat) (x182_17 : Bool), v182 = .bool x182_17 ∧ Aside0 (laws_FnShapes.j0 kq t413 t417 t420 t421 t429 t435 t439 x182_17 t408 t409 t410 = some r) ∧ Aside0 (kq ≤ k) ∧ Aside0 (Kd.R Kd.bool 4 wc w.heap.size (fun k_ => some k_ ≠ (v418 : Value).ownBlock ∧ some k_ ≠ (v422 : Value).ownBlock ∧ some k_ ≠ (v430 : Value).ownBlock) (.slice Ao23 t413.length co23) t413) ∧ Aside0 (Kd.R Kd.bool 4 wc w.heap.size (fun k_ => some k_ ≠ ((.slice Ao23 t413.length co23) : Value).ownBlock ∧ some k_ ≠ (v422 : Value).ownBlock ∧ some k_ ≠ (v430 : Value).ownBlock) v418 t417) ∧ Aside0 (Kd.R Kd.bool 4 wc w.heap.size (fun k_ => some k_ ≠ ((.slice Ao23 t413.length co23) : Value).ownBlock ∧ some k_ ≠ (v418 : Value).ownBlock ∧ some k_ ≠ (v430 : Value).ownBlock) v422 t421) ∧ Aside0 (Kd.R Kd.bool 4 wc w.heap.size (fun k_ => some k_ ≠ ((.slice Ao23 t413.length co23) : Value).ownBlock ∧ some k_ ≠ (v418 : Value).ownBlock ∧ some k_ ≠ (v422 : Value).ownBlock) v430 t429) ∧ Aside0 (Kd.R (Kd.int .i64) 3 wc w.heap.size (fun _ => True) (.slice Ao22 t410.length co22) t410) ∧ Aside0 (wc.heap[gb416]? = some (.cells #[.int .i64 t408, .int .i64 t409, (.slice Ao22 t410.length co22)] 61 (0, 0))) ∧ Aside0 (Below w.heap.size w wc))
  case first =>
   as_aux_lemma =>
   have H := HC18.out
   clear HC18
   by_cases c47 : (t420 != t424) = true
   ·rw [if_pos c47] at H
    have c47b0 : (t420 != t424) = true := c47
    (try (have c47b1 : decide (t420 = t424) = false := by simpa using c47))
    (try (have c47b2 : (t420 == t424) = false := by simpa using c47))
    (try (have c47b3 : ¬ (t420 = t424) := by simpa using c47))
    clear c47
    (first | rw [c47b0] | (simp only [i64_w, i32_w]; rw [c47b0]) | skip)
    exact absurd (H.trans (congrArg some hrt.out)) (by generalize k = k_; cases k_ <;> simp [laws_FnShapes.j0])
   ·rw [if_neg c47] at H
    have c47b0 : (t420 != t424) = false := by simpa using c47
    (try (have c47b1 : decide (t420 = t424) = true := by simpa using c47))
    (try (have c47b2 : (t420 == t424) = true := by simpa using c47))
    clear c47
    (first | rw [c47b0] | (simp only [i64_w, i32_w]; rw [c47b0]) | skip)
    replace H := Option.bind_eq_some_iff.mp H
    obtain ⟨t449, A480, H⟩ := H
    have A48 := Aside0.mk A480
    clear A480
    by_cases c49 : t449 = true
    ·subst c49
     have H1 : (if (t428 != t432) = true then (laws_FnShapes.j0 k t413 t417 t420 t421 t429 t435 t439 true t408 t409 t410) else ((laws_pSameBools.f k t425 t429).bind fun t450 => (if t450 = true then (if (t434 != t436) = true then (laws_FnShapes.j0 k t413 t417 t420 t421 t429 t435 t439 true t408 t409 t410) else (if t433 = t435 then (if (t438 != t440) = true then (laws_FnShapes.j0 k t413 t417 t420 t421 t429 t435 t439 true t408 t409 t410) else (if t437 = t439 then (if (t442 != t444) = true then (laws_FnShapes.j0 k t413 t417 t420 t421 t429 t435 t439 true t408 t409 t410) else (if t441.toList = t443.toList then (if (t446 != t448) = true then (laws_FnShapes.j0 k t413 t417 t420 t421 t429 t435 t439 true t408 t409 t410) else (if (t445 != t447) = true then (laws_FnShapes.j0 k t413 t417 t420 t421 t429 t435 t439 true t408 t409 t410) else (laws_FnShapes.j0 k t413 t417 t420 t421 t429 t435 t439 (t420 != t447) t408 t409 t410))) else (laws_FnShapes.j0 k t413 t417 t420 t421 t429 t435 t439 true t408 t409 t410))) else (laws_FnShapes.j0 k t413 t417 t420 t421 t429 t435 t439 true t408 t409 t410))) else (laws_FnShapes.j0 k t413 t417 t420 t421 t429 t435 t439 true t408 t409 t410))) else (laws_FnShapes.j0 k t413 t417 t420 t421 t429 t435 t439 true t408 t409 t410)))) = some r := by rw [if_pos rfl] at H; exact H
     clear H
     have H := H1
     clear H1
     by_cases c50 : (t428 != t432) = true
     ·rw [if_pos c50] at H
      have c50b0 : (t428 != t432) = true := c50
      (try (have c50b1 : decide (t428 = t432) = false := by simpa using c50))
      (try (have c50b2 : (t428 == t432) = false := by simpa using c50))
      (try (have c50b3 : ¬ (t428 = t432) := by simpa using c50))
      clear c50
      exact absurd (H.trans (congrArg some hrt.out)) (by generalize k = k_; cases k_ <;> simp [laws_FnShapes.j0])
     ·rw [if_neg c50] at H
      have c50b0 : (t428 != t432) = false := by simpa using c50
      (try (have c50b1 : decide (t428 = t432) = true := by simpa using c50))
      (try (have c50b2 : (t428 == t432) = true := by simpa using c50))
      clear c50
      replace H := Option.bind_eq_some_iff.mp H
      obtain ⟨t450, A510, H⟩ := H
      have A51 := Aside0.mk A510
      clear A510
      by_cases c52 : t450 = true
      ·subst c52
       have H1 : (if (t434 != t436) = true then (laws_FnShapes.j0 k t413 t417 t420 t421 t429 t435 t439 true t408 t409 t410) else (if t433 = t435 then (if (t438 != t440) = true then (laws_FnShapes.j0 k t413 t417 t420 t421 t429 t435 t439 true t408 t409 t410) else (if t437 = t439 then (if (t442 != t444) = true then (laws_FnShapes.j0 k t413 t417 t420 t421 t429 t435 t439 true t408 t409 t410) else (if t441.toList = t443.toList then (if (t446 != t448) = true then (laws_FnShapes.j0 k t413 t417 t420 t421 t429 t435 t439 true t408 t409 t410) else (if (t445 != t447) = true then (laws_FnShapes.j0 k t413 t417 t420 t421 t429 t435 t439 true t408 t409 t410) else (laws_FnShapes.j0 k t413 t417 t420 t421 t429 t435 t439 (t420 != t447) t408 t409 t410))) else (laws_FnShapes.j0 k t413 t417 t420 t421 t429 t435 t439 true t408 t409 t410))) else (laws_FnShapes.j0 k t413 t417 t420 t421 t429 t435 t439 true t408 t409 t410))) else (laws_FnShapes.j0 k t413 t417 t420 t421 t429 t435 t439 true t408 t409 t410))) = some r := by rw [if_pos rfl] at H; exact H
       clear H
       have H := H1
       clear H1
       by_cases c53 : (t434 != t436) = true
       ·rw [if_pos c53] at H
        have c53b0 : (t434 != t436) = true := c53
        (try (have c53b1 : decide (t434 = t436) = false := by simpa using c53))
        (try (have c53b2 : (t434 == t436) = false := by simpa using c53))
        (try (have c53b3 : ¬ (t434 = t436) := by simpa using c53))
        clear c53
        exact absurd (H.trans (congrArg some hrt.out)) (by generalize k = k_; cases k_ <;> simp [laws_FnShapes.j0])
       ·rw [if_neg c53] at H
        have c53b0 : (t434 != t436) = false := by simpa using c53
        (try (have c53b1 : decide (t434 = t436) = true := by simpa using c53))
        (try (have c53b2 : (t434 == t436) = true := by simpa using c53))
        clear c53
        by_cases c54 : t433 = t435
        ·rw [if_pos c54] at H
         have c54b0 : (t433 == t435) = true := beq_iff_eq.mpr c54
         have c54b1 : (t433 != t435) = false := bne_eq_false_iff_eq.mpr c54
         clear c54
         by_cases c55 : (t438 != t440) = true
         ·rw [if_pos c55] at H
          have c55b0 : (t438 != t440) = true := c55
          (try (have c55b1 : decide (t438 = t440) = false := by simpa using c55))
          (try (have c55b2 : (t438 == t440) = false := by simpa using c55))
          (try (have c55b3 : ¬ (t438 = t440) := by simpa using c55))
          clear c55
          exact absurd (H.trans (congrArg some hrt.out)) (by generalize k = k_; cases k_ <;> simp [laws_FnShapes.j0])
         ·rw [if_neg c55] at H
          have c55b0 : (t438 != t440) = false := by simpa using c55
          (try (have c55b1 : decide (t438 = t440) = true := by simpa using c55))
          (try (have c55b2 : (t438 == t440) = true := by simpa using c55))
          clear c55
          by_cases c56 : t437 = t439
          ·rw [if_pos c56] at H
           have c56b0 : (t437 == t439) = true := beq_iff_eq.mpr c56
           have c56b1 : (t437 != t439) = false := bne_eq_false_iff_eq.mpr c56
           clear c56
           by_cases c57 : (t442 != t444) = true
           ·rw [if_pos c57] at H
            have c57b0 : (t442 != t444) = true := c57
            (try (have c57b1 : decide (t442 = t444) = false := by simpa using c57))
            (try (have c57b2 : (t442 == t444) = false := by simpa using c57))
            (try (have c57b3 : ¬ (t442 = t444) := by simpa using c57))
            clear c57
            exact absurd (H.trans (congrArg some hrt.out)) (by generalize k = k_; cases k_ <;> simp [laws_FnShapes.j0])
           ·rw [if_neg c57] at H
            have c57b0 : (t442 != t444) = false := by simpa using c57
            (try (have c57b1 : decide (t442 = t444) = true := by simpa using c57))
            (try (have c57b2 : (t442 == t444) = true := by simpa using c57))
            clear c57
            by_cases c58 : t441.toList = t443.toList
            ·rw [if_pos c58] at H
             have c58b0 : (t441.toList == t443.toList) = true := beq_iff_eq.mpr c58
             have c58b1 : (t441.toList != t443.toList) = false := bne_eq_false_iff_eq.mpr c58
             clear c58
             by_cases c59 : (t446 != t448) = true
             ·rw [if_pos c59] at H
              have c59b0 : (t446 != t448) = true := c59
              (try (have c59b1 : decide (t446 = t448) = false := by simpa using c59))
              (try (have c59b2 : (t446 == t448) = false := by simpa using c59))
              (try (have c59b3 : ¬ (t446 = t448) := by simpa using c59))
              clear c59
              exact absurd (H.trans (congrArg some hrt.out)) (by generalize k = k_; cases k_ <;> simp [laws_FnShapes.j0])
             ·rw [if_neg c59] at H
              have c59b0 : (t446 != t448) = false := by simpa using c59
              (try (have c59b1 : decide (t446 = t448) = true := by simpa using c59))
              (try (have c59b2 : (t446 == t448) = true := by simpa using c59))
              clear c59
              by_cases c60 : (t445 != t447) = true
              ·rw [if_pos c60] at H
               have c60b0 : (t445 != t447) = true := c60
               (try (have c60b1 : decide (t445 = t447) = false := by simpa using c60))
               (try (have c60b2 : (t445 == t447) = false := by simpa using c60))
               (try (have c60b3 : ¬ (t445 = t447) := by simpa using c60))
               clear c60
               exact absurd (H.trans (congrArg some hrt.out)) (by generalize k = k_; cases k_ <;> simp [laws_FnShapes.j0])
              ·rw [if_neg c60] at H
               have c60b0 : (t445 != t447) = false := by simpa using c60
               (try (have c60b1 : decide (t445 = t447) = true := by simpa using c60))
               (try (have c60b2 : (t445 == t447) = true := by simpa using c60))
               clear c60
               have H' := Aside0.mk H
               clear H
               obtain ⟨Ao61, co61, eo61⟩ := Kd.R_slice HO419.out
               subst eo61
               obtain ⟨Ao62, co62, eo62⟩ := Kd.R_slice HO423.out
               subst eo62
               go_wp2_with (first | (go_at_call 55; (with_reducible refine (laws_pSameBools.calls k _ _ t417 _ _ t421 true _ ?side1 ?side2 ?side3 ?side4 A48.out).mono ?_); (case side1 => exact cRx12 HO419.out); (case side2 => exact (Kd.R_reads' HO419.out).2.1); (case side3 => exact cRx12 HO423.out); (case side4 => exact (Kd.R_reads' HO423.out).2.1); rintro e w' ⟨rfl, ⟨nd, rfl⟩⟩; obtain ⟨Ao63, co63, eo63⟩ := Kd.R_slice HO427.out; subst eo63; obtain ⟨Ao64, co64, eo64⟩ := Kd.R_slice HO431.out; subst eo64) | (go_at_call 55; (with_reducible refine (laws_pSameBools.calls k _ _ t425 _ _ t429 true _ ?side1 ?side2 ?side3 ?side4 A51.out).mono ?_); (case side1 => exact cRx12 HO427.out); (case side2 => exact (Kd.R_reads' HO427.out).2.1); (case side3 => exact cRx12 HO431.out); (case side4 => exact (Kd.R_reads' HO431.out).2.1); rintro e w' ⟨rfl, ⟨nd, rfl⟩⟩))
               go_meet
               case rel => exact ⟨_, ((t420 != t447)), (by first | rfl | (simp; done) | (simp [*]; done)), H', ⟨by first | omega | exact Nat.le_refl _⟩, ⟨by exact rRx12 (mox12 HO415.out)⟩, ⟨by exact rRx12 (mox12 HO419.out)⟩, ⟨by exact rRx12 (mox12 HO423.out)⟩, ⟨by exact rRx12 (mox12 HO431.out)⟩, ⟨rRx12 HO412.out⟩, ⟨rBx12 BK416.out⟩, ⟨be1x12 HB.out GE416.out⟩⟩
            ·rw [if_neg c58] at H
             have c58b0 : (t441.toList == t443.toList) = false := beq_eq_false_iff_ne.mpr c58
             have c58b1 : (t441.toList != t443.toList) = true := bne_iff_ne.mpr c58
             exact absurd (H.trans (congrArg some hrt.out)) (by generalize k = k_; cases k_ <;> simp [laws_FnShapes.j0])
          ·rw [if_neg c56] at H
           have c56b0 : (t437 == t439) = false := beq_eq_false_iff_ne.mpr c56
           have c56b1 : (t437 != t439) = true := bne_iff_ne.mpr c56
           exact absurd (H.trans (congrArg some hrt.out)) (by generalize k = k_; cases k_ <;> simp [laws_FnShapes.j0])
        ·rw [if_neg c54] at H
         have c54b0 : (t433 == t435) = false := beq_eq_false_iff_ne.mpr c54
         have c54b1 : (t433 != t435) = true := bne_iff_ne.mpr c54
         exact absurd (H.trans (congrArg some hrt.out)) (by generalize k = k_; cases k_ <;> simp [laws_FnShapes.j0])
      ·replace c52 := Bool.eq_false_iff.mpr c52
       subst c52
       have H1 : (laws_FnShapes.j0 k t413 t417 t420 t421 t429 t435 t439 true t408 t409 t410) = some r := by rw [if_neg (show ¬ (false = true) by decide)] at H; exact H
       clear H
       have H := H1
       clear H1
       exact absurd (H.trans (congrArg some hrt.out)) (by generalize k = k_; cases k_ <;> simp [laws_FnShapes.j0])
    ·replace c49 := Bool.eq_false_iff.mpr c49
     subst c49
     have H1 : (laws_FnShapes.j0 k t413 t417 t420 t421 t429 t435 t439 true t408 t409 t410) = some r := by rw [if_neg (show ¬ (false = true) by decide)] at H; exact H
     clear H
     have H := H1
     clear H1
     exact absurd (H.trans (congrArg some hrt.out)) (by generalize k = k_; cases k_ <;> simp [laws_FnShapes.j0])
  case rest =>
   clear HC18
   try clear c1; try clear c4; try clear c47; try clear c47b0; try clear c47b1; try clear c47b2; try clear c49; try clear c50; try clear c50b0; try clear c50b1; try clear c50b2; try clear c52; try clear c53; try clear c53b0; try clear c53b1; try clear c53b2; try clear c54; try clear c54b0; try clear c54b1; try clear c55; try clear c55b0; try clear c55b1; try clear c55b2; try clear c56; try clear c56b0; try clear c56b1; try clear c57; try clear c57b0; try clear c57b1; try clear c57b2; try clear c58; try clear c58b0; try clear c58b1; try clear c59; try clear c59b0; try clear c59b1; try clear c59b2; try clear c60; try clear c60b0; try clear c60b1; try clear c60b2; try clear hcz21_0 hcz21_1 hcz21_2; try clear hcz25_0 hcz25_1 hcz25_2; try clear hcz27_0 hcz27_1 hcz27_2; try clear hcz29_0 hcz29_1 hcz29_2; try clear hcz31_0 hcz31_1 hcz31_2; try clear hcz33_0 hcz33_1 hcz33_2; try clear hcz35_0 hcz35_1 hcz35_2; try clear hcz37_0 hcz37_1 hcz37_2; try clear hcz39_0 hcz39_1 hcz39_2; try clear hcz41_0 hcz41_1 hcz41_2; try clear hcz43_0 hcz43_1 hcz43_2; try clear hcz45_0 hcz45_1 hcz45_2; try clear hfz21_0 hfz21_1 hfz21_2; try clear hfz25_0 hfz25_1 hfz25_2; try clear hfz27_0 hfz27_1 hfz27_2; try clear hfz29_0 hfz29_1 hfz29_2; try clear hfz31_0 hfz31_1 hfz31_2; try clear hfz33_0 hfz33_1 hfz33_2; try clear hfz35_0 hfz35_1 hfz35_2; try clear hfz37_0 hfz37_1 hfz37_2; try clear hfz39_0 hfz39_1 hfz39_2; try clear hfz41_0 hfz41_1 hfz41_2; try clear hfz43_0 hfz43_1 hfz43_2; try clear hfz45_0 hfz45_1 hfz45_2
   obtain ⟨kq, x182_17, rfl, HA, HJ17, HO_6, HO_7, HO_9, HO_13, HO_417002, BK416, HB⟩ := hcut
   cases kq with
   | zero => exact absurd HA.out (by simp [laws_FnShapes.j0])
   | succ kj17 =>
    have H := HA.out
    clear HA
    simp only [laws_FnShapes.j0] at H
    by_cases c65 : x182_17 = true
    ·subst c65
     have H1 : (some false) = some r := by rw [if_pos rfl] at H; exact H
     clear H
     have H := H1
     clear H1
     exact absurd (H.trans (congrArg some hrt.out)) (by simp)
    ·replace c65 := Bool.eq_false_iff.mpr c65
     subst c65
     have H1 : (if t420 = true then (laws_FnShapes.l0 kj17 t413 t417 t421 t429 t435 t439 t413 (t413.length : Int) 0 t408 t409 t410) else (some true)) = some r := by rw [if_neg (show ¬ (false = true) by decide)] at H; exact H
     clear H
     have H := H1
     clear H1
     by_cases c66 : t420 = true
     ·subst c66
      have H1 : (laws_FnShapes.l0 kj17 t413 t417 t421 t429 t435 t439 t413 (t413.length : Int) 0 t408 t409 t410) = some r := by rw [if_pos rfl] at H; exact H
      clear H
      have H := H1
      clear H1
      have H' := Aside0.mk H
      clear H
      go_wp2
      go_loopg [187] kj17 (fun kq v187 w' => ∃ (x187_2 : Int), v187 = .int .i64 x187_2 ∧ Aside0 (laws_FnShapes.l0 kq t413 t417 t421 t429 t435 t439 t413 (t413.length : Int) x187_2 t408 t409 t410 = some r) ∧ Aside0 (kq ≤ kj17) ∧ Aside0 (Kd.R Kd.bool 4 w' w.heap.size (fun k_ => some k_ ≠ (v418 : Value).ownBlock ∧ some k_ ≠ (v422 : Value).ownBlock ∧ some k_ ≠ (v430 : Value).ownBlock) (.slice Ao23 t413.length co23) t413) ∧ Aside0 (Kd.R Kd.bool 4 w' w.heap.size (fun k_ => some k_ ≠ ((.slice Ao23 t413.length co23) : Value).ownBlock ∧ some k_ ≠ (v422 : Value).ownBlock ∧ some k_ ≠ (v430 : Value).ownBlock ∧ some k_ ≠ ((.slice Ao23 t413.length co23) : Value).ownBlock) v418 t417) ∧ Aside0 (Kd.R Kd.bool 4 w' w.heap.size (fun k_ => some k_ ≠ ((.slice Ao23 t413.length co23) : Value).ownBlock ∧ some k_ ≠ (v418 : Value).ownBlock ∧ some k_ ≠ (v430 : Value).ownBlock ∧ some k_ ≠ ((.slice Ao23 t413.length co23) : Value).ownBlock) v422 t421) ∧ Aside0 (Kd.R Kd.bool 4 w' w.heap.size (fun k_ => some k_ ≠ ((.slice Ao23 t413.length co23) : Value).ownBlock ∧ some k_ ≠ (v418 : Value).ownBlock ∧ some k_ ≠ (v422 : Value).ownBlock ∧ some k_ ≠ ((.slice Ao23 t413.length co23) : Value).ownBlock) v430 t429) ∧ Aside0 (Kd.R Kd.bool 4 w' w.heap.size (fun k_ => some k_ ≠ (v418 : Value).ownBlock ∧ some k_ ≠ (v422 : Value).ownBlock ∧ some k_ ≠ (v430 : Value).ownBlock) (.slice Ao23 t413.length co23) t413) ∧ Aside0 (Kd.R (Kd.int .i64) 3 w' w.heap.size (fun _ => True) (.slice Ao22 t410.length co22) t410) ∧ Aside0 (w'.heap[gb416]? = some (.cells #[.int .i64 t408, .int .i64 t409, (.slice Ao22 t410.length co22)] 61 (0, 0))) ∧ Aside0 (Below w.heap.size w w'))
      case atStart => exact ⟨(0), (by first | rfl | (simp; done) | (simp [*]; done)), H', ⟨Nat.le_refl _⟩, ⟨rRx12 HO_6.out⟩, ⟨by exact rRx12 (mox12 HO_7.out)⟩, ⟨by exact rRx12 (mox12 HO_9.out)⟩, ⟨by exact rRx12 (mox12 HO_13.out)⟩, ⟨rRx12 HO_6.out⟩, ⟨rRx12 HO_417002.out⟩, ⟨rBx12 BK416.out⟩, ⟨be1x12 HB.out GE416.out⟩⟩
      case round =>
       as_aux_lemma =>
       clear H'
       try clear c65; try clear c66
       obtain ⟨x187_2, rfl, HA, HK2, HO_6, HO_7, HO_9, HO_13, HO_185, HO_417002, BK416, HB⟩ := hrel
       cases gk with
       | zero => exact absurd HA.out (by simp [laws_FnShapes.l0])
       | succ k2 =>
        have H := HA.out
        clear HA
        simp only [laws_FnShapes.l0] at H
        by_cases c67 : x187_2 < (t413.length : Int)
        ·rw [if_pos c67] at H
         have c67b0 : decide (x187_2 < (t413.length : Int)) = true := decide_eq_true c67
         clear c67
         by_cases c68 : 0 ≤ x187_2
         ·rw [if_pos c68] at H
          have c68b0 : decide (0 ≤ x187_2) = true := decide_eq_true c68
          clear c68
          by_cases c69 : x187_2 < (t413.length : Int)
          ·rw [if_pos c69] at H
           have c69b0 : decide (x187_2 < (t413.length : Int)) = true := decide_eq_true c69
           clear c69
           obtain ⟨bq70, hbq70⟩ : ∃ b_ : Bool, b_ = (rdOf false t413 x187_2) := ⟨_, rfl⟩
           replace H : (if bq70 = true then (if x187_2 < (t421.length : Int) then (if rdOf false t421 x187_2 = true then (if x187_2 < (t429.length : Int) then (if rdOf false t429 x187_2 = true then (laws_FnShapes.l0 k2 t413 t417 t421 t429 t435 t439 t413 (t413.length : Int) (wrap64 (x187_2 + 1)) t408 t409 t410) else (laws_FnShapes.l0 k2 t413 t417 t421 t429 t435 t439 t413 (t413.length : Int) (wrap64 (x187_2 + 1)) t408 t409 t410)) else (none)) else (some false)) else (none)) else (if x187_2 < (t429.length : Int) then (if rdOf false t429 x187_2 = true then (some false) else (laws_FnShapes.l0 k2 t413 t417 t421 t429 t435 t439 t413 (t413.length : Int) (wrap64 (x187_2 + 1)) t408 t409 t410)) else (none))) = some r := by rw [← hbq70] at H; exact H
           have Nbq70 := Aside0.mk hbq70
           clear hbq70
           by_cases c71 : bq70 = true
           ·subst c71
            have H1 : (if x187_2 < (t421.length : Int) then (if rdOf false t421 x187_2 = true then (if x187_2 < (t429.length : Int) then (if rdOf false t429 x187_2 = true then (laws_FnShapes.l0 k2 t413 t417 t421 t429 t435 t439 t413 (t413.length : Int) (wrap64 (x187_2 + 1)) t408 t409 t410) else (laws_FnShapes.l0 k2 t413 t417 t421 t429 t435 t439 t413 (t413.length : Int) (wrap64 (x187_2 + 1)) t408 t409 t410)) else (none)) else (some false)) else (none)) = some r := by rw [if_pos rfl] at H; exact H
            clear H
            have H := H1
            clear H1
            by_cases c72 : x187_2 < (t421.length : Int)
            ·rw [if_pos c72] at H
             have c72b0 : decide (x187_2 < (t421.length : Int)) = true := decide_eq_true c72
             clear c72
             obtain ⟨bq73, hbq73⟩ : ∃ b_ : Bool, b_ = (rdOf false t421 x187_2) := ⟨_, rfl⟩
             replace H : (if bq73 = true then (if x187_2 < (t429.length : Int) then (if rdOf false t429 x187_2 = true then (laws_FnShapes.l0 k2 t413 t417 t421 t429 t435 t439 t413 (t413.length : Int) (wrap64 (x187_2 + 1)) t408 t409 t410) else (laws_FnShapes.l0 k2 t413 t417 t421 t429 t435 t439 t413 (t413.length : Int) (wrap64 (x187_2 + 1)) t408 t409 t410)) else (none)) else (some false)) = some r := by rw [← hbq73] at H; exact H
             have Nbq73 := Aside0.mk hbq73
             clear hbq73
             by_cases c74 : bq73 = true
             ·subst c74
              have H1 : (if x187_2 < (t429.length : Int) then (if rdOf false t429 x187_2 = true then (laws_FnShapes.l0 k2 t413 t417 t421 t429 t435 t439 t413 (t413.length : Int) (wrap64 (x187_2 + 1)) t408 t409 t410) else (laws_FnShapes.l0 k2 t413 t417 t421 t429 t435 t439 t413 (t413.length : Int) (wrap64 (x187_2 + 1)) t408 t409 t410)) else (none)) = some r := by rw [if_pos rfl] at H; exact H
              clear H
              have H := H1
              clear H1
              by_cases c75 : x187_2 < (t429.length : Int)
              ·rw [if_pos c75] at H
               have c75b0 : decide (x187_2 < (t429.length : Int)) = true := decide_eq_true c75
               clear c75
               obtain ⟨bq76, hbq76⟩ : ∃ b_ : Bool, b_ = (rdOf false t429 x187_2) := ⟨_, rfl⟩
               replace H : (if bq76 = true then (laws_FnShapes.l0 k2 t413 t417 t421 t429 t435 t439 t413 (t413.length : Int) (wrap64 (x187_2 + 1)) t408 t409 t410) else (laws_FnShapes.l0 k2 t413 t417 t421 t429 t435 t439 t413 (t413.length : Int) (wrap64 (x187_2 + 1)) t408 t409 t410)) = some r := by rw [← hbq76] at H; exact H
               have Nbq76 := Aside0.mk hbq76
               clear hbq76
               by_cases c77 : bq76 = true
               ·subst c77
                have H1 : (laws_FnShapes.l0 k2 t413 t417 t421 t429 t435 t439 t413 (t413.length : Int) (wrap64 (x187_2 + 1)) t408 t409 t410) = some r := by rw [if_pos rfl] at H; exact H
                clear H
                have H := H1
                clear H1
                have H' := Aside0.mk H
                clear H
                have p451 : 0 ≤ (x187_2 : Int) := of_decide_eq_true (by first | (with_reducible assumption) | assumption)
                have q451 : x187_2 < (t413.length : Int) := of_decide_eq_true (by first | (with_reducible assumption) | assumption)
                obtain ⟨ad451, e451, hx451_0⟩ := Kd.at_bool (Kd.R_reads' HO_185.out).2.2 x187_2 p451 q451
                (try rw [← Nbq70.out] at hx451_0)
                (try rw [← Nbq73.out] at hx451_0)
                (try rw [← Nbq76.out] at hx451_0)
                cases e451
                replace p451 := eq_true p451
                replace q451 := eq_true q451
                obtain ⟨Ao78, co78, eo78⟩ := Kd.R_slice HO_9.out
                subst eo78
                have p452 : 0 ≤ (x187_2 : Int) := of_decide_eq_true (by first | (with_reducible assumption) | assumption)
                have q452 : x187_2 < (t421.length : Int) := of_decide_eq_true (by first | (with_reducible assumption) | assumption)
                obtain ⟨ad452, e452, hx452_0⟩ := Kd.at_bool (Kd.R_reads' HO_9.out).2.2 x187_2 p452 q452
                (try rw [← Nbq70.out] at hx452_0)
                (try rw [← Nbq73.out] at hx452_0)
                (try rw [← Nbq76.out] at hx452_0)
                cases e452
                replace p452 := eq_true p452
                replace q452 := eq_true q452
                obtain ⟨Ao79, co79, eo79⟩ := Kd.R_slice HO_13.out
                subst eo79
                have p453 : 0 ≤ (x187_2 : Int) := of_decide_eq_true (by first | (with_reducible assumption) | assumption)
                have q453 : x187_2 < (t429.length : Int) := of_decide_eq_true (by first | (with_reducible assumption) | assumption)
                obtain ⟨ad453, e453, hx453_0⟩ := Kd.at_bool (Kd.R_reads' HO_13.out).2.2 x187_2 p453 q453
                (try rw [← Nbq70.out] at hx453_0)
                (try rw [← Nbq73.out] at hx453_0)
                (try rw [← Nbq76.out] at hx453_0)
                cases e453
                replace p453 := eq_true p453
                replace q453 := eq_true q453
                go_wp2
                go_roundg k2
                case measure => have := HJ17.out; have := HK2.out; omega
                case rel => exact ⟨(wrap64 (x187_2 + 1)), (by first | rfl | (simp; done) | (simp [*]; done)), H', ⟨by have := HJ17.out; have := HK2.out; omega⟩, ⟨rRx12 HO_6.out⟩, ⟨rRx12 HO_7.out⟩, ⟨rRx12 HO_9.out⟩, ⟨rRx12 HO_13.out⟩, ⟨rRx12 HO_185.out⟩, ⟨rRx12 HO_417002.out⟩, ⟨rBx12 BK416.out⟩, ⟨be1x12 HB.out GE416.out⟩⟩
               ·replace c77 := Bool.eq_false_iff.mpr c77
                subst c77
                have H1 : (laws_FnShapes.l0 k2 t413 t417 t421 t429 t435 t439 t413 (t413.length : Int) (wrap64 (x187_2 + 1)) t408 t409 t410) = some r := by rw [if_neg (show ¬ (false = true) by decide)] at H; exact H
                clear H
                have H := H1
                clear H1
                have H' := Aside0.mk H
                clear H
                have p451 : 0 ≤ (x187_2 : Int) := of_decide_eq_true (by first | (with_reducible assumption) | assumption)
                have q451 : x187_2 < (t413.length : Int) := of_decide_eq_true (by first | (with_reducible assumption) | assumption)
                obtain ⟨ad451, e451, hx451_0⟩ := Kd.at_bool (Kd.R_reads' HO_185.out).2.2 x187_2 p451 q451
                (try rw [← Nbq70.out] at hx451_0)
                (try rw [← Nbq73.out] at hx451_0)
                (try rw [← Nbq76.out] at hx451_0)
                cases e451
                replace p451 := eq_true p451
                replace q451 := eq_true q451
                obtain ⟨Ao80, co80, eo80⟩ := Kd.R_slice HO_9.out
                subst eo80
                have p452 : 0 ≤ (x187_2 : Int) := of_decide_eq_true (by first | (with_reducible assumption) | assumption)
                have q452 : x187_2 < (t421.length : Int) := of_decide_eq_true (by first | (with_reducible assumption) | assumption)
                obtain ⟨ad452, e452, hx452_0⟩ := Kd.at_bool (Kd.R_reads' HO_9.out).2.2 x187_2 p452 q452
                (try rw [← Nbq70.out] at hx452_0)
                (try rw [← Nbq73.out] at hx452_0)
                (try rw [← Nbq76.out] at hx452_0)
                cases e452
                replace p452 := eq_true p452
                replace q452 := eq_true q452
                obtain ⟨Ao81, co81, eo81⟩ := Kd.R_slice HO_13.out
                subst eo81
                have p453 : 0 ≤ (x187_2 : Int) := of_decide_eq_true (by first | (with_reducible assumption) | assumption)
                have q453 : x187_2 < (t429.length : Int) := of_decide_eq_true (by first | (with_reducible assumption) | assumption)
                obtain ⟨ad453, e453, hx453_0⟩ := Kd.at_bool (Kd.R_reads' HO_13.out).2.2 x187_2 p453 q453
                (try rw [← Nbq70.out] at hx453_0)
                (try rw [← Nbq73.out] at hx453_0)
                (try rw [← Nbq76.out] at hx453_0)
                cases e453
                replace p453 := eq_true p453
                replace q453 := eq_true q453
                go_wp2
                go_roundg k2
                case measure => have := HJ17.out; have := HK2.out; omega
                case rel => exact ⟨(wrap64 (x187_2 + 1)), (by first | rfl | (simp; done) | (simp [*]; done)), H', ⟨by have := HJ17.out; have := HK2.out; omega⟩, ⟨rRx12 HO_6.out⟩, ⟨rRx12 HO_7.out⟩, ⟨rRx12 HO_9.out⟩, ⟨rRx12 HO_13.out⟩, ⟨rRx12 HO_185.out⟩, ⟨rRx12 HO_417002.out⟩, ⟨rBx12 BK416.out⟩, ⟨be1x12 HB.out GE416.out⟩⟩
              ·rw [if_neg c75] at H
               exact absurd H (by simp)
             ·replace c74 := Bool.eq_false_iff.mpr c74
              subst c74
              have H1 : (some false) = some r := by rw [if_neg (show ¬ (false = true) by decide)] at H; exact H
              clear H
              have H := H1
              clear H1
              exact absurd (H.trans (congrArg some hrt.out)) (by simp)
            ·rw [if_neg c72] at H
             exact absurd H (by simp)
           ·replace c71 := Bool.eq_false_iff.mpr c71
            subst c71
            have H1 : (if x187_2 < (t429.length : Int) then (if rdOf false t429 x187_2 = true then (some false) else (laws_FnShapes.l0 k2 t413 t417 t421 t429 t435 t439 t413 (t413.length : Int) (wrap64 (x187_2 + 1)) t408 t409 t410)) else (none)) = some r := by rw [if_neg (show ¬ (false = true) by decide)] at H; exact H
            clear H
            have H := H1
            clear H1
            by_cases c82 : x187_2 < (t429.length : Int)
            ·rw [if_pos c82] at H
             have c82b0 : decide (x187_2 < (t429.length : Int)) = true := decide_eq_true c82
             clear c82
             obtain ⟨bq83, hbq83⟩ : ∃ b_ : Bool, b_ = (rdOf false t429 x187_2) := ⟨_, rfl⟩
             replace H : (if bq83 = true then (some false) else (laws_FnShapes.l0 k2 t413 t417 t421 t429 t435 t439 t413 (t413.length : Int) (wrap64 (x187_2 + 1)) t408 t409 t410)) = some r := by rw [← hbq83] at H; exact H
             have Nbq83 := Aside0.mk hbq83
             clear hbq83
             by_cases c84 : bq83 = true
             ·subst c84
              have H1 : (some false) = some r := by rw [if_pos rfl] at H; exact H
              clear H
              have H := H1
              clear H1
              exact absurd (H.trans (congrArg some hrt.out)) (by simp)
             ·replace c84 := Bool.eq_false_iff.mpr c84
              subst c84
              have H1 : (laws_FnShapes.l0 k2 t413 t417 t421 t429 t435 t439 t413 (t413.length : Int) (wrap64 (x187_2 + 1)) t408 t409 t410) = some r := by rw [if_neg (show ¬ (false = true) by decide)] at H; exact H
              clear H
              have H := H1
              clear H1
              have H' := Aside0.mk H
              clear H
              have p451 : 0 ≤ (x187_2 : Int) := of_decide_eq_true (by first | (with_reducible assumption) | assumption)
              have q451 : x187_2 < (t413.length : Int) := of_decide_eq_true (by first | (with_reducible assumption) | assumption)
              obtain ⟨ad451, e451, hx451_0⟩ := Kd.at_bool (Kd.R_reads' HO_185.out).2.2 x187_2 p451 q451
              (try rw [← Nbq70.out] at hx451_0)
              (try rw [← Nbq83.out] at hx451_0)
              cases e451
              replace p451 := eq_true p451
              replace q451 := eq_true q451
              obtain ⟨Ao85, co85, eo85⟩ := Kd.R_slice HO_13.out
              subst eo85
              have p454 : 0 ≤ (x187_2 : Int) := of_decide_eq_true (by first | (with_reducible assumption) | assumption)
              have q454 : x187_2 < (t429.length : Int) := of_decide_eq_true (by first | (with_reducible assumption) | assumption)
              obtain ⟨ad454, e454, hx454_0⟩ := Kd.at_bool (Kd.R_reads' HO_13.out).2.2 x187_2 p454 q454
              (try rw [← Nbq70.out] at hx454_0)
              (try rw [← Nbq83.out] at hx454_0)
              cases e454
              replace p454 := eq_true p454
              replace q454 := eq_true q454
              go_wp2
              go_roundg k2
              case measure => have := HJ17.out; have := HK2.out; omega
              case rel => exact ⟨(wrap64 (x187_2 + 1)), (by first | rfl | (simp; done) | (simp [*]; done)), H', ⟨by have := HJ17.out; have := HK2.out; omega⟩, ⟨rRx12 HO_6.out⟩, ⟨rRx12 HO_7.out⟩, ⟨rRx12 HO_9.out⟩, ⟨rRx12 HO_13.out⟩, ⟨rRx12 HO_185.out⟩, ⟨rRx12 HO_417002.out⟩, ⟨rBx12 BK416.out⟩, ⟨be1x12 HB.out GE416.out⟩⟩
            ·rw [if_neg c82] at H
             exact absurd H (by simp)
          ·rw [if_neg c69] at H
           exact absurd H (by simp)
         ·rw [if_neg c68] at H
          exact absurd H (by simp)
        ·rw [if_neg c67] at H
         have c67b0 : decide (x187_2 < (t413.length : Int)) = false := decide_eq_false c67
         clear c67
         replace H := Option.bind_eq_some_iff.mp H
         obtain ⟨⟨t455, t458⟩, A860, H⟩ := H
         (try dsimp only at H)
         have A86 := Aside0.mk A860
         clear A860
         replace H := Option.bind_eq_some_iff.mp H
         obtain ⟨t459, A870, H⟩ := H
         have A87 := Aside0.mk A870
         clear A870
         have HC88 := Aside0.mk H
         clear H
         obtain ⟨hcz89_0, hcz89_1, hcz89_2, hfz89_0, hfz89_1, hfz89_2⟩ := cf3x12 BK416.out
         obtain ⟨Ao90, co90, eo90⟩ := Kd.R_slice HO_7.out
         subst eo90
         go_upto_region 28 with (first | ((with_reducible refine gate_callee (f := 45) rfl ?_); refine goesL_ (some 214) rfl rfl Try.func45 (by kernel_rfl) rfl #[.agg #[.int .i64 t408, .int .i64 t409, .slice Ao22 t410.length co22], .slice Ao90 t417.length co90] rfl mpx12 ?_; (with_reducible refine (impl_ShrinkDug.calls k2 t408 t409 _ _ t410 _ _ t417 t455 t458 _ ?side1 ?side2 ?side3 ?side4 A86.out).mono ?_); (case side1 => exact cRx12 HO_417002.out); (case side2 => exact (Kd.R_reads' HO_417002.out).2.1); (case side3 => exact cRx12 HO_7.out); (case side4 => exact (Kd.R_reads' HO_7.out).2.1); rintro e w91 ⟨v456, rfl, ho0, hb⟩; refine ⟨_, rfl, ?_⟩; replace HO_417002 := Aside0.mk (Kd.R_below (rRx12 HO_417002.out) hb); have HO457 := Aside0.mk (Kd.R_lower (nwx12 (nwx12 (nwx12 (nwx12 (nwx12 ho0 (rRx12 HO_6.out)) (rRx12 HO_7.out)) (rRx12 HO_9.out)) (rRx12 HO_13.out)) (rRx12 HO_185.out)) (below_size (be1x12 HB.out GE416.out))); replace HO_6 := Aside0.mk (Kd.R_elder' (rRx12 HO_6.out) (Kd.R_base ho0) hb); replace HO_7 := Aside0.mk (Kd.R_elder' (rRx12 HO_7.out) (Kd.R_base ho0) hb); replace HO_9 := Aside0.mk (Kd.R_elder' (rRx12 HO_9.out) (Kd.R_base ho0) hb); replace HO_13 := Aside0.mk (Kd.R_elder' (rRx12 HO_13.out) (Kd.R_base ho0) hb); replace HO_185 := Aside0.mk (Kd.R_elder' (rRx12 HO_185.out) (Kd.R_base ho0) hb); replace BK416 := Aside0.mk (blk_below (rBx12 BK416.out) hb); replace HB := Aside0.mk (below_step (be1x12 HB.out GE416.out) hb); (try clear hb); (try clear hb2); (try clear hk); (try clear hi); (try clear ho0)) | ((with_reducible refine gate_callee (f := 56) rfl ?_); refine goesL_ (some 218) rfl rfl Try.func56 (by kernel_rfl) rfl #[.slice Ao23 t413.length co23] rfl mpx12 ?_; (with_reducible refine (laws_pCount.calls k2 _ _ t413 t459 _ ?side1 ?side2 A87.out).mono ?_); (case side1 => exact cRx12 HO_6.out); (case side2 => exact (Kd.R_reads' HO_6.out).2.1); rintro e w' ⟨rfl, ⟨nd, rfl⟩⟩; refine ⟨_, rfl, ?_⟩))
         (try simp only [Act.put, List.setIfInBounds_toArray, List.set_cons_zero, List.set_cons_succ])
         go_cut [251] (fun v251 wc => ∃ (kq : Nat) (x251_87 : Bool), v251 = .bool x251_87 ∧ Aside0 (laws_FnShapes.j2 kq t413 t455 x251_87 = some r) ∧ Aside0 (kq ≤ k2) ∧ Aside0 (Kd.R Kd.bool 4 wc w.heap.size (fun k_ => some k_ ≠ (v456 : Value).ownBlock) (.slice Ao23 t413.length co23) t413) ∧ Aside0 (Kd.R Kd.bool 4 wc w.heap.size (fun k_ => some k_ ≠ ((.slice Ao23 t413.length co23) : Value).ownBlock) v456 t455) ∧ Aside0 (Kd.R (Kd.int .i64) 3 wc w.heap.size (fun _ => True) (.slice Ao22 t410.length co22) t410) ∧ Aside0 (wc.heap[gb416]? = some (.cells #[.int .i64 t408, .int .i64 t409, (.slice Ao22 t410.length co22)] 61 (0, 0))) ∧ Aside0 (Below w.heap.size w wc))
         case first =>
          as_aux_lemma =>
          have H := HC88.out
          clear HC88
          by_cases c92 : t458 = true
          ·subst c92
           have H1 : (if (t455.length : Int) = (t413.length : Int) then (if t435 > t459 then (laws_FnShapes.j2 k2 t413 t455 true) else (if t439 > (wrap64 (4 * t459)) then (laws_FnShapes.j2 k2 t413 t455 true) else (if ((t439 == 0) != (t459 == 0)) = true then (laws_FnShapes.j2 k2 t413 t455 true) else (laws_FnShapes.j2 k2 t413 t455 (decide (t439 < (wrap64 (4 * t435)))))))) else (laws_FnShapes.j2 k2 t413 t455 true)) = some r := by rw [if_pos rfl] at H; exact H
           clear H
           have H := H1
           clear H1
           by_cases c93 : (t455.length : Int) = (t413.length : Int)
           ·rw [if_pos c93] at H
            have c93b0 : ((t455.length : Int) == (t413.length : Int)) = true := beq_iff_eq.mpr c93
            have c93b1 : ((t455.length : Int) != (t413.length : Int)) = false := bne_eq_false_iff_eq.mpr c93
            have c93b2 : (t455.length == t413.length) = true := by first | simpa using c93 | (simp at c93 ⊢; omega)
            clear c93
            (first | rw [c93b0] | (simp only [i64_w, i32_w]; rw [c93b0]) | skip)
            by_cases c94 : t435 > t459
            ·rw [if_pos c94] at H
             have c94b0 : decide (t459 < t435) = true := decide_eq_true c94
             clear c94
             exact absurd (H.trans (congrArg some hrt.out)) (by generalize k2 = k_; cases k_ <;> simp [laws_FnShapes.j2])
            ·rw [if_neg c94] at H
             have c94b0 : decide (t459 < t435) = false := decide_eq_false c94
             clear c94
             by_cases c95 : t439 > (wrap64 (4 * t459))
             ·rw [if_pos c95] at H
              have c95b0 : decide ((wrap64 (4 * t459)) < t439) = true := decide_eq_true c95
              clear c95
              exact absurd (H.trans (congrArg some hrt.out)) (by generalize k2 = k_; cases k_ <;> simp [laws_FnShapes.j2])
             ·rw [if_neg c95] at H
              have c95b0 : decide ((wrap64 (4 * t459)) < t439) = false := decide_eq_false c95
              clear c95
              by_cases c96 : ((t439 == 0) != (t459 == 0)) = true
              ·rw [if_pos c96] at H
               have c96b0 : ((t439 == 0) != (t459 == 0)) = true := c96
               (try (have c96b1 : decide ((t439 == 0) = (t459 == 0)) = false := by simpa using c96))
               (try (have c96b2 : ((t439 == 0) == (t459 == 0)) = false := by simpa using c96))
               (try (have c96b3 : ¬ ((t439 == 0) = (t459 == 0)) := by simpa using c96))
               clear c96
               exact absurd (H.trans (congrArg some hrt.out)) (by generalize k2 = k_; cases k_ <;> simp [laws_FnShapes.j2])
              ·rw [if_neg c96] at H
               have c96b0 : ((t439 == 0) != (t459 == 0)) = false := by simpa using c96
               (try (have c96b1 : decide ((t439 == 0) = (t459 == 0)) = true := by simpa using c96))
               (try (have c96b2 : ((t439 == 0) == (t459 == 0)) = true := by simpa using c96))
               clear c96
               have H' := Aside0.mk H
               clear H
               obtain ⟨Ao97, co97, eo97⟩ := Kd.R_slice HO457.out
               subst eo97
               go_wp2
               go_meet
               case rel => exact ⟨_, (decide (t439 < (wrap64 (4 * t435)))), (by first | rfl | (simp; done) | (simp [*]; done)), H', ⟨by have := HJ17.out; have := HK2.out; first | omega | exact Nat.le_refl _⟩, ⟨by exact rRx12 (Kd.R_mono HO_6.out (fun _ hk => hk.2))⟩, ⟨by exact rRx12 (Kd.R_mono HO457.out (fun _ hk => hk.1.1.1.1.2))⟩, ⟨rRx12 HO_417002.out⟩, ⟨rBx12 BK416.out⟩, ⟨be1x12 HB.out GE416.out⟩⟩
           ·rw [if_neg c93] at H
            have c93b0 : ((t455.length : Int) == (t413.length : Int)) = false := beq_eq_false_iff_ne.mpr c93
            have c93b1 : ((t455.length : Int) != (t413.length : Int)) = true := bne_iff_ne.mpr c93
            have c93b2 : (t455.length == t413.length) = false := by first | simpa using c93 | (simp at c93 ⊢; omega)
            (first | rw [c93b0] | (simp only [i64_w, i32_w]; rw [c93b0]) | skip)
            exact absurd (H.trans (congrArg some hrt.out)) (by generalize k2 = k_; cases k_ <;> simp [laws_FnShapes.j2])
          ·replace c92 := Bool.eq_false_iff.mpr c92
           subst c92
           have H1 : (laws_FnShapes.j2 k2 t413 t455 true) = some r := by rw [if_neg (show ¬ (false = true) by decide)] at H; exact H
           clear H
           have H := H1
           clear H1
           exact absurd (H.trans (congrArg some hrt.out)) (by generalize k2 = k_; cases k_ <;> simp [laws_FnShapes.j2])
         case rest =>
          clear HC88
          try clear c67; try clear c67b0; try clear c68; try clear c68b0; try clear c69; try clear c69b0; try clear c71; try clear c72; try clear c72b0; try clear c74; try clear c75; try clear c75b0; try clear c77; try clear c82; try clear c82b0; try clear c84; try clear c92; try clear c93; try clear c93b0; try clear c93b1; try clear c93b2; try clear c94; try clear c94b0; try clear c95; try clear c95b0; try clear c96; try clear c96b0; try clear c96b1; try clear c96b2; try clear hcz89_0 hcz89_1 hcz89_2 hfz89_0 hfz89_1 hfz89_2; try clear hx451_0; try clear hx452_0; try clear hx453_0; try clear hx454_0; try clear p451; try clear p452; try clear p453; try clear p454; try clear q451; try clear q452; try clear q453; try clear q454
          obtain ⟨kq, x251_87, rfl, HA, HJ87, HO_6, HO_33, HO_417002, BK416, HB⟩ := hcut
          cases kq with
          | zero => exact absurd HA.out (by simp [laws_FnShapes.j2])
          | succ kj87 =>
           have H := HA.out
           clear HA
           simp only [laws_FnShapes.j2] at H
           by_cases c98 : x251_87 = true
           ·subst c98
            have H1 : (some false) = some r := by rw [if_pos rfl] at H; exact H
            clear H
            have H := H1
            clear H1
            exact absurd (H.trans (congrArg some hrt.out)) (by simp)
           ·replace c98 := Bool.eq_false_iff.mpr c98
            subst c98
            have H1 : (laws_FnShapes.l1 kj87 t455 t413 (t413.length : Int) 0) = some r := by rw [if_neg (show ¬ (false = true) by decide)] at H; exact H
            clear H
            have H := H1
            clear H1
            have H' := Aside0.mk H
            clear H
            go_wp2
            go_loopg [254] kj87 (fun kq v254 w' => ∃ (x254_4 : Int), v254 = .int .i64 x254_4 ∧ Aside0 (laws_FnShapes.l1 kq t455 t413 (t413.length : Int) x254_4 = some r) ∧ Aside0 (kq ≤ kj87) ∧ Aside0 (Kd.R Kd.bool 4 w' w.heap.size (fun k_ => some k_ ≠ ((.slice Ao23 t413.length co23) : Value).ownBlock) v456 t455) ∧ Aside0 (Kd.R Kd.bool 4 w' w.heap.size (fun k_ => some k_ ≠ (v456 : Value).ownBlock) (.slice Ao23 t413.length co23) t413) ∧ Aside0 (Kd.R (Kd.int .i64) 3 w' w.heap.size (fun _ => True) (.slice Ao22 t410.length co22) t410) ∧ Aside0 (w'.heap[gb416]? = some (.cells #[.int .i64 t408, .int .i64 t409, (.slice Ao22 t410.length co22)] 61 (0, 0))) ∧ Aside0 (Below w.heap.size w w'))
            case atStart => exact ⟨(0), (by first | rfl | (simp; done) | (simp [*]; done)), H', ⟨Nat.le_refl _⟩, ⟨rRx12 HO_33.out⟩, ⟨rRx12 HO_6.out⟩, ⟨rRx12 HO_417002.out⟩, ⟨rBx12 BK416.out⟩, ⟨be1x12 HB.out GE416.out⟩⟩
            case round =>
             as_aux_lemma =>
             clear H'
             try clear c98
             obtain ⟨x254_4, rfl, HA, HK4, HO_33, HO_252, HO_417002, BK416, HB⟩ := hrel
             cases gk with
             | zero => exact absurd HA.out (by simp [laws_FnShapes.l1])
             | succ k4 =>
              have H := HA.out
              clear HA
              simp only [laws_FnShapes.l1] at H
              by_cases c99 : x254_4 < (t413.length : Int)
              ·rw [if_pos c99] at H
               have c99b0 : decide (x254_4 < (t413.length : Int)) = true := decide_eq_true c99
               clear c99
               by_cases c100 : 0 ≤ x254_4
               ·rw [if_pos c100] at H
                have c100b0 : decide (0 ≤ x254_4) = true := decide_eq_true c100
                clear c100
                by_cases c101 : x254_4 < (t413.length : Int)
                ·rw [if_pos c101] at H
                 have c101b0 : decide (x254_4 < (t413.length : Int)) = true := decide_eq_true c101
                 clear c101
                 obtain ⟨bq102, hbq102⟩ : ∃ b_ : Bool, b_ = (rdOf false t413 x254_4) := ⟨_, rfl⟩
                 replace H : (if bq102 = true then (if x254_4 < (t455.length : Int) then (if rdOf false t455 x254_4 = true then (laws_FnShapes.l1 k4 t455 t413 (t413.length : Int) (wrap64 (x254_4 + 1))) else (some false)) else (none)) else (laws_FnShapes.l1 k4 t455 t413 (t413.length : Int) (wrap64 (x254_4 + 1)))) = some r := by rw [← hbq102] at H; exact H
                 have Nbq102 := Aside0.mk hbq102
                 clear hbq102
                 by_cases c103 : bq102 = true
                 ·subst c103
                  have H1 : (if x254_4 < (t455.length : Int) then (if rdOf false t455 x254_4 = true then (laws_FnShapes.l1 k4 t455 t413 (t413.length : Int) (wrap64 (x254_4 + 1))) else (some false)) else (none)) = some r := by rw [if_pos rfl] at H; exact H
                  clear H
                  have H := H1
                  clear H1
                  by_cases c104 : x254_4 < (t455.length : Int)
                  ·rw [if_pos c104] at H
                   have c104b0 : decide (x254_4 < (t455.length : Int)) = true := decide_eq_true c104
                   clear c104
                   obtain ⟨bq105, hbq105⟩ : ∃ b_ : Bool, b_ = (rdOf false t455 x254_4) := ⟨_, rfl⟩
                   replace H : (if bq105 = true then (laws_FnShapes.l1 k4 t455 t413 (t413.length : Int) (wrap64 (x254_4 + 1))) else (some false)) = some r := by rw [← hbq105] at H; exact H
                   have Nbq105 := Aside0.mk hbq105
                   clear hbq105
                   by_cases c106 : bq105 = true
                   ·subst c106
                    have H1 : (laws_FnShapes.l1 k4 t455 t413 (t413.length : Int) (wrap64 (x254_4 + 1))) = some r := by rw [if_pos rfl] at H; exact H
                    clear H
                    have H := H1
                    clear H1
                    have H' := Aside0.mk H
                    clear H
                    have p460 : 0 ≤ (x254_4 : Int) := of_decide_eq_true (by first | (with_reducible assumption) | assumption)
                    have q460 : x254_4 < (t413.length : Int) := of_decide_eq_true (by first | (with_reducible assumption) | assumption)
                    obtain ⟨ad460, e460, hx460_0⟩ := Kd.at_bool (Kd.R_reads' HO_252.out).2.2 x254_4 p460 q460
                    (try rw [← Nbq102.out] at hx460_0)
                    (try rw [← Nbq105.out] at hx460_0)
                    cases e460
                    replace p460 := eq_true p460
                    replace q460 := eq_true q460
                    obtain ⟨Ao107, co107, eo107⟩ := Kd.R_slice HO_33.out
                    subst eo107
                    have p461 : 0 ≤ (x254_4 : Int) := of_decide_eq_true (by first | (with_reducible assumption) | assumption)
                    have q461 : x254_4 < (t455.length : Int) := of_decide_eq_true (by first | (with_reducible assumption) | assumption)
                    obtain ⟨ad461, e461, hx461_0⟩ := Kd.at_bool (Kd.R_reads' HO_33.out).2.2 x254_4 p461 q461
                    (try rw [← Nbq102.out] at hx461_0)
                    (try rw [← Nbq105.out] at hx461_0)
                    cases e461
                    replace p461 := eq_true p461
                    replace q461 := eq_true q461
                    go_wp2
                    go_roundg k4
                    case measure => have := HJ17.out; have := HK2.out; have := HJ87.out; have := HK4.out; omega
                    case rel => exact ⟨(wrap64 (x254_4 + 1)), (by first | rfl | (simp; done) | (simp [*]; done)), H', ⟨by have := HJ17.out; have := HK2.out; have := HJ87.out; have := HK4.out; omega⟩, ⟨rRx12 HO_33.out⟩, ⟨rRx12 HO_252.out⟩, ⟨rRx12 HO_417002.out⟩, ⟨rBx12 BK416.out⟩, ⟨be1x12 HB.out GE416.out⟩⟩
                   ·replace c106 := Bool.eq_false_iff.mpr c106
                    subst c106
                    have H1 : (some false) = some r := by rw [if_neg (show ¬ (false = true) by decide)] at H; exact H
                    clear H
                    have H := H1
                    clear H1
                    exact absurd (H.trans (congrArg some hrt.out)) (by simp)
                  ·rw [if_neg c104] at H
                   exact absurd H (by simp)
                 ·replace c103 := Bool.eq_false_iff.mpr c103
                  subst c103
                  have H1 : (laws_FnShapes.l1 k4 t455 t413 (t413.length : Int) (wrap64 (x254_4 + 1))) = some r := by rw [if_neg (show ¬ (false = true) by decide)] at H; exact H
                  clear H
                  have H := H1
                  clear H1
                  have H' := Aside0.mk H
                  clear H
                  have p460 : 0 ≤ (x254_4 : Int) := of_decide_eq_true (by first | (with_reducible assumption) | assumption)
                  have q460 : x254_4 < (t413.length : Int) := of_decide_eq_true (by first | (with_reducible assumption) | assumption)
                  obtain ⟨ad460, e460, hx460_0⟩ := Kd.at_bool (Kd.R_reads' HO_252.out).2.2 x254_4 p460 q460
                  (try rw [← Nbq102.out] at hx460_0)
                  cases e460
                  replace p460 := eq_true p460
                  replace q460 := eq_true q460
                  go_wp2
                  go_roundg k4
                  case measure => have := HJ17.out; have := HK2.out; have := HJ87.out; have := HK4.out; omega
                  case rel => exact ⟨(wrap64 (x254_4 + 1)), (by first | rfl | (simp; done) | (simp [*]; done)), H', ⟨by have := HJ17.out; have := HK2.out; have := HJ87.out; have := HK4.out; omega⟩, ⟨rRx12 HO_33.out⟩, ⟨rRx12 HO_252.out⟩, ⟨rRx12 HO_417002.out⟩, ⟨rBx12 BK416.out⟩, ⟨be1x12 HB.out GE416.out⟩⟩
                ·rw [if_neg c101] at H
                 exact absurd H (by simp)
               ·rw [if_neg c100] at H
                exact absurd H (by simp)
              ·rw [if_neg c99] at H
               have c99b0 : decide (x254_4 < (t413.length : Int)) = false := decide_eq_false c99
               clear c99
               obtain rfl := Option.some.inj H
               go_wp2
               go_ret
               exact ⟨by first | rfl | (simp [errW_none, errW_some] <;> rfl) | (simp [*, errW_none, errW_some] <;> rfl), be1x12 HB.out GE416.out⟩
     ·replace c66 := Bool.eq_false_iff.mpr c66
      subst c66
      have H1 : (some true) = some r := by rw [if_neg (show ¬ (false = true) by decide)] at H; exact H
      clear H
      have H := H1
      clear H1
      obtain rfl := Option.some.inj H
      go_wp2
      go_ret
      exact ⟨by first | rfl | (simp [errW_none, errW_some] <;> rfl) | (simp [*, errW_none, errW_some] <;> rfl), be1x12 HB.out GE416.out⟩

/-- THE ONE PURE STATEMENT of laws_FnShapes: yours. -/
def laws_FnShapes.Pure : Prop := ∀ (l0 : List Int) (l1 : List Int), l0.length ≤ maxLen → l0.length * 1 ≤ 140737488351232 → (∀ x ∈ l0, (Lit.int .u8 x).wf = true) → l1.length ≤ maxLen → l1.length * 1 ≤ 140737488351232 → (∀ x ∈ l1, (Lit.int .u8 x).wf = true) → ∃ k, laws_FnShapes.f k l0 l1 = some true
theorem laws_FnShapes.walk (P : laws_FnShapes.Pure) (a0 : Option Addr) (len0 cap0 : Nat) (z0 : List Int) (a1 : Option Addr) (len1 cap1 : Nat) (z1 : List Int) (w : World) (w0 : (a0 = none ∧ len0 = 0 ∧ cap0 = 0 ∧ z0 = []) ∨ ∃ x, a0 = some x ∧ len0 ≤ cap0 ∧ cap0 ≤ maxLen ∧ z0.length = cap0 ∧ (∀ i, i < z0.length → w.cell? (x.add i) = some (.int .u8 (z0.getD i 0))) ∧ ∀ n ∈ z0, (Lit.int .u8 n).wf = true) (y0 : len0 * 1 ≤ 140737488351232) (w1 : (a1 = none ∧ len1 = 0 ∧ cap1 = 0 ∧ z1 = []) ∨ ∃ x, a1 = some x ∧ len1 ≤ cap1 ∧ cap1 ≤ maxLen ∧ z1.length = cap1 ∧ (∀ i, i < z1.length → w.cell? (x.add i) = some (.int .u8 (z1.getD i 0))) ∧ ∀ n ∈ z1, (Lit.int .u8 n).wf = true) (y1 : len1 * 1 ≤ 140737488351232) :
  Calls Try.prog 5 #[.slice a0 len0 cap0, .slice a1 len1 cap1] w fun e w' => e = .returned (.bool true) ∧ Below w.heap.size w w' := by
 obtain ⟨l0, rfl, hr0, hm0, hw0, hc0⟩ := ReadsInt.ofRowC w0
 obtain ⟨l1, rfl, hr1, hm1, hw1, hc1⟩ := ReadsInt.ofRowC w1
 obtain ⟨k, h⟩ := P l0 l1 hm0 y0 hw0 hm1 y1 hw1
 refine (laws_FnShapes.calls k _ _ l0 _ _ l1 true w (Kd.C_of_reads (d := (0 : Int)) (h1 := fun _ => rfl) hr0) hc0 (Kd.C_of_reads (d := (0 : Int)) (h1 := fun _ => rfl) hr1) hc1 h (Aside0.mk rfl)).mono ?_
 rintro e w' ⟨rfl, hd⟩
 exact ⟨rfl, hd⟩

end Go.Proofs.Ytinfalmpncfneaa.PFnShapes
