/- This text is this session's own, not the print's: programs (wip/squeeze.py and others) made it out of what print.sh, or wip/ownprint.py, had written (BYTES set higher), its facts said by short words. -/
import Derived.Test.YtccpgcgaaiafnaaPFnShiftsx0
import Derived.Test.YtccpgcgaaiafnaaPFnShiftsx1
import Derived.Test.YtccpgcgaaiafnaaPFnShiftsx2
import Derived.Test.YtccpgcgaaiafnaaPFnShiftsx3
import Derived.Test.YtccpgcgaaiafnaaPFnShiftsx4
import Derived.Test.YtccpgcgaaiafnaaPFnShiftsx5
import Derived.Test.YtccpgcgaaiafnaaPFnShiftsx6
import Derived.Test.YtccpgcgaaiafnaaPFnShiftsx7
import Derived.Test.YtccpgcgaaiafnaaPFnShiftswx8
namespace Go.Proofs.Ytccpgcgaaiafnaa.PFnShifts
open Go.RowKit Go.Proofs.YtccpgcgaaiafnaaW.PrintWords Go.Proofs.YtccpgcgaaiafnaaW.PrintLast Go.Proofs.YtccpgcgaaiafnaaW.PrintMore
attribute [local go_sem] max2_int min2_int max_two min_two max_three min_three max_four min_four   -- for this text's walks alone
set_option linter.unusedVariables false
set_option linter.unusedSimpArgs false

/-! ### laws_FnShifts: function 4 -/
mutual
def laws_FnShifts.j0 : Nat → List Int → List Int → Option (Bool)
 | 0, _, _ => none
 | k + 1, x0, x1 => (spec_DrawFleetReady.f k x0).bind fun bt377 => ((impl_FleetReady.f k bt377.1 bt377.2.1 bt377.2.2).bind fun bt382 => ((spec_FleetReady.f k bt377.1 bt377.2.1 bt377.2.2).bind fun bt386 => ((spec_DrawWithCalendar.f k x1).bind fun bt390 => ((impl_WithCalendar.f k bt390.1 bt390.2).bind fun bt396 => ((spec_WithCalendar.f k bt390.1 bt390.2).bind fun bt400 => ((impl_LongestDown.f k bt390.1).bind fun bt404 => ((spec_LongestDown.f k bt390.1).bind fun bt406 => ((impl_ReadyIn.f k bt390.1).bind fun bt408 => ((spec_ReadyIn.f k bt390.1).bind fun bt410 => (laws_FnShifts.j1 k bt377.1 bt377.2.1 bt377.2.2 bt382.1 bt382.2 bt386.1 bt386.2 bt390.1 bt390.2 bt396.1 bt396.2 bt400.1 bt400.2 bt404.1 bt404.2 bt406.1 bt406.2 bt408.1 bt408.2 bt410.1 bt410.2))))))))))
def laws_FnShifts.j1 : Nat → List (S24) → Int → Int → List Int → Bool → List Int → Bool → List Bool → List Int → List Bool → Bool → List Bool → Bool → Int → Bool → Int → Bool → Int → Bool → Int → Bool → Option (Bool)
 | 0, _, _, _, _, _, _, _, _, _, _, _, _, _, _, _, _, _, _, _, _, _ => none
 | k + 1, x5, x6, x7, x8, x9, x10, x11, x12, x13, x14, x15, x16, x17, x18, x19, x20, x21, x22, x23, x24, x25 => if (x9 != x11) = true then (laws_FnShifts.j2 k x5 x6 x7 x9 x10 x12 x13 x14 x15 x16 x20 x24 true) else ((laws_qInts.f k x8 x10).bind fun t412 => (if t412 = true then (if (x15 != x17) = true then (laws_FnShifts.j2 k x5 x6 x7 x9 x10 x12 x13 x14 x15 x16 x20 x24 true) else ((laws_qBools.f k x14 x16).bind fun t413 => (if t413 = true then (if (x19 != x21) = true then (laws_FnShifts.j2 k x5 x6 x7 x9 x10 x12 x13 x14 x15 x16 x20 x24 true) else (if x18 = x20 then (if (x23 != x25) = true then (laws_FnShifts.j2 k x5 x6 x7 x9 x10 x12 x13 x14 x15 x16 x20 x24 true) else (laws_FnShifts.j2 k x5 x6 x7 x9 x10 x12 x13 x14 x15 x16 x20 x24 (x22 != x24))) else (laws_FnShifts.j2 k x5 x6 x7 x9 x10 x12 x13 x14 x15 x16 x20 x24 true))) else (laws_FnShifts.j2 k x5 x6 x7 x9 x10 x12 x13 x14 x15 x16 x20 x24 true)))) else (laws_FnShifts.j2 k x5 x6 x7 x9 x10 x12 x13 x14 x15 x16 x20 x24 true)))
def laws_FnShifts.j2 : Nat → List (S24) → Int → Int → Bool → List Int → List Bool → List Int → List Bool → Bool → List Bool → Int → Int → Bool → Option (Bool)
 | 0, _, _, _, _, _, _, _, _, _, _, _, _, _ => none
 | k + 1, x5, x6, x7, x9, x10, x12, x13, x14, x15, x16, x20, x24, x143 => if x143 = true then (some false) else (laws_FnShifts.j3 k x5 x6 x7 x9 x10 x12 x13 x14 x15 x16 x20 x24)
def laws_FnShifts.j3 : Nat → List (S24) → Int → Int → Bool → List Int → List Bool → List Int → List Bool → Bool → List Bool → Int → Int → Option (Bool)
 | 0, _, _, _, _, _, _, _, _, _, _, _, _ => none
 | k + 1, x5, x6, x7, x9, x10, x12, x13, x14, x15, x16, x20, x24 => if x15 = true then ((impl_ReadyIn.f k x14).bind fun bt414 => ((impl_LongestDown.f k x14).bind fun bt416 => (if bt414.2 = true then (if bt416.2 = true then (if bt414.1 > x24 then (laws_FnShifts.j4 k x5 x6 x7 x9 x10 x12 x13 x16 true) else (if bt416.1 < x20 then (laws_FnShifts.j4 k x5 x6 x7 x9 x10 x12 x13 x16 true) else (laws_FnShifts.j4 k x5 x6 x7 x9 x10 x12 x13 x16 (decide (bt414.1 < (wrap64 (x24 - (x13.length : Int)))))))) else (laws_FnShifts.j4 k x5 x6 x7 x9 x10 x12 x13 x16 true)) else (laws_FnShifts.j4 k x5 x6 x7 x9 x10 x12 x13 x16 true)))) else (laws_FnShifts.j7 k x5 x6 x7 x9 x10)
def laws_FnShifts.j7 : Nat → List (S24) → Int → Int → Bool → List Int → Option (Bool)
 | 0, _, _, _, _, _ => none
 | k + 1, x5, x6, x7, x9, x10 => if x9 = true then (laws_FnShifts.j8 k x5 x6 x7 x10) else (some true)
def laws_FnShifts.j8 : Nat → List (S24) → Int → Int → List Int → Option (Bool)
 | 0, _, _, _, _ => none
 | k + 1, x5, x6, x7, x10 => laws_FnShifts.l1 k x6 x7 x10 0 x5 (x5.length : Int) 0
def laws_FnShifts.l1 : Nat → Int → Int → List Int → Int → List (S24) → Int → Int → Option (Bool)
 | 0, _, _, _, _, _, _, _ => none
 | k + 1, x6, x7, x10, x32, x201, x202, x203 => if x203 < x202 then (laws_FnShifts.j10 k x6 x7 x10 x32 x201 x202 x203) else ((laws_qSum.f k x10).bind fun t421 => (if x32 = t421 then (some ((x10.length : Int) == x7)) else (some false)))
def laws_FnShifts.j10 : Nat → Int → Int → List Int → Int → List (S24) → Int → Int → Option (Bool)
 | 0, _, _, _, _, _, _, _ => none
 | k + 1, x6, x7, x10, x32, x201, x202, x203 => if 0 ≤ x203 then (if x203 < (x201.length : Int) then ((impl_StatesOf.f k ((rd_T24 x201 x203).f0) ((rd_T24 x201 x203).f1) ((rd_T24 x201 x203).f2) (wrap64 (x6 + x203)) x7).bind fun bt424 => ((spec_StatesOf.f k ((rd_T24 x201 x203).f0) ((rd_T24 x201 x203).f1) ((rd_T24 x201 x203).f2) (wrap64 (x6 + x203)) x7).bind fun bt428 => (if bt424.2 = true then (if bt428.2 = true then ((laws_qBools.f k bt424.1 bt428.1).bind fun t432 => (laws_FnShifts.j11 k x6 x7 x10 x32 bt428.1 x201 x202 x203 (!t432))) else (laws_FnShifts.j11 k x6 x7 x10 x32 bt428.1 x201 x202 x203 true)) else (laws_FnShifts.j11 k x6 x7 x10 x32 bt428.1 x201 x202 x203 true)))) else (none)) else (none)
def laws_FnShifts.j11 : Nat → Int → Int → List Int → Int → List Bool → List (S24) → Int → Int → Bool → Option (Bool)
 | 0, _, _, _, _, _, _, _, _, _ => none
 | k + 1, x6, x7, x10, x32, x37, x201, x202, x203, x237 => if x237 = true then (some false) else (laws_FnShifts.j12 k x6 x7 x10 x32 x37 x201 x202 x203)
def laws_FnShifts.j12 : Nat → Int → Int → List Int → Int → List Bool → List (S24) → Int → Int → Option (Bool)
 | 0, _, _, _, _, _, _, _, _ => none
 | k + 1, x6, x7, x10, x32, x37, x201, x202, x203 => laws_FnShifts.l2 k x6 x7 x10 x32 x201 x202 x203 x37 (x37.length : Int) 0
def laws_FnShifts.l2 : Nat → Int → Int → List Int → Int → List (S24) → Int → Int → List Bool → Int → Int → Option (Bool)
 | 0, _, _, _, _, _, _, _, _, _, _ => none
 | k + 1, x6, x7, x10, x32, x201, x202, x203, x238, x239, x240 => if x240 < x239 then (if 0 ≤ x240 then (if x240 < (x238.length : Int) then (if rdOf false x238 x240 = true then (laws_FnShifts.l2 k x6 x7 x10 (wrap64 (x32 + 1)) x201 x202 x203 x238 x239 (wrap64 (x240 + 1))) else (laws_FnShifts.l2 k x6 x7 x10 x32 x201 x202 x203 x238 x239 (wrap64 (x240 + 1)))) else (none)) else (none)) else (laws_FnShifts.l1 k x6 x7 x10 x32 x201 x202 (wrap64 (x203 + 1)))
def laws_FnShifts.j4 : Nat → List (S24) → Int → Int → Bool → List Int → List Bool → List Int → List Bool → Bool → Option (Bool)
 | 0, _, _, _, _, _, _, _, _, _ => none
 | k + 1, x5, x6, x7, x9, x10, x12, x13, x16, x178 => if x178 = true then (some false) else (laws_FnShifts.j5 k x5 x6 x7 x9 x10 x12 x13 x16)
def laws_FnShifts.j5 : Nat → List (S24) → Int → Int → Bool → List Int → List Bool → List Int → List Bool → Option (Bool)
 | 0, _, _, _, _, _, _, _, _ => none
 | k + 1, x5, x6, x7, x9, x10, x12, x13, x16 => laws_FnShifts.l0 k x5 x6 x7 x9 x10 x12 x13 x16 (x16.length : Int) 0
def laws_FnShifts.l0 : Nat → List (S24) → Int → Int → Bool → List Int → List Bool → List Int → List Bool → Int → Int → Option (Bool)
 | 0, _, _, _, _, _, _, _, _, _, _ => none
 | k + 1, x5, x6, x7, x9, x10, x12, x13, x179, x180, x181 => if x181 < x180 then (if 0 ≤ x181 then (if x181 < (x179.length : Int) then (if x181 < (x12.length : Int) then (if rdOf false x12 x181 = true then ((laws_qHas.f k x13 x181).bind fun t420 => (if ((rdOf false x179 x181) != (!t420)) = true then (some false) else (laws_FnShifts.l0 k x5 x6 x7 x9 x10 x12 x13 x179 x180 (wrap64 (x181 + 1))))) else (if ((rdOf false x179 x181) != false) = true then (some false) else (laws_FnShifts.l0 k x5 x6 x7 x9 x10 x12 x13 x179 x180 (wrap64 (x181 + 1))))) else (none)) else (none)) else (none)) else (laws_FnShifts.j7 k x5 x6 x7 x9 x10)
end
def laws_FnShifts.f (k : Nat) (l0 : List Int) (l1 : List Int) : Option (Bool) := if (wrap64 ((l0.length : Int) + (l1.length : Int))) > 1048576 then (some true) else (laws_FnShifts.j0 k l0 l1)
set_option maxHeartbeats 8000000 in
set_option maxRecDepth 100000 in
theorem laws_FnShifts.calls (k : Nat) (A0 : Option Addr) (c0 : Nat) (l0 : List Int) (A1 : Option Addr) (c1 : Nat) (l1 : List Int) (r : Bool) (w : World) (hr0 : Kd.C (Kd.int .u8) w A0 l0.length l0) (hc0 : l0.length ≤ c0) (hr1 : Kd.C (Kd.int .u8) w A1 l1.length l1) (hc1 : l1.length ≤ c1) (h : laws_FnShifts.f k l0 l1 = some r) :
  Calls Try.prog 4 #[.slice A0 l0.length c0, .slice A1 l1.length c1] w fun e w' => e = .returned (.bool r) ∧ Below w.heap.size w w' := by
 have hu24 := Try.underlying24
 have HR0 := Aside0.mk hr0
 have HC0 := Aside0.mk hc0
 clear hr0 hc0
 have HR1 := Aside0.mk hr1
 have HC1 := Aside0.mk hc1
 clear hr1 hc1
 have HB := Aside0.mk (Below.refl w.heap.size w)
 have H : (if (wrap64 ((l0.length : Int) + (l1.length : Int))) > 1048576 then (some true) else (laws_FnShifts.j0 k l0 l1)) = some r := h
 clear h
 have HC3 := Aside0.mk H
 clear H
 go_enter Try.func4, Try.ntmps4
 go_upto_if 46 with (fail)
 go_cut [] (fun wc => ∃ (kq : Nat), Aside0 (laws_FnShifts.j0 kq l0 l1 = some r) ∧ Aside0 (kq ≤ k) ∧ Aside0 (Below w.heap.size w wc))
 case first =>
  as_aux_lemma =>
  have H := HC3.out
  clear HC3
  by_cases c4 : (wrap64 ((l0.length : Int) + (l1.length : Int))) > 1048576
  ·rw [if_pos c4] at H
   have c4b0 : decide (1048576 < (wrap64 ((l0.length : Int) + (l1.length : Int)))) = true := decide_eq_true c4
   clear c4
   (first | rw [c4b0] | (simp only [i64_w, i32_w]; rw [c4b0]) | skip)
   obtain rfl := Option.some.inj H
   go_wp2
   go_ret
   exact ⟨by first | rfl | (simp [errW_none, errW_some] <;> rfl) | (simp [*, errW_none, errW_some] <;> rfl), be0x8 HB.out⟩
  ·rw [if_neg c4] at H
   have c4b0 : decide (1048576 < (wrap64 ((l0.length : Int) + (l1.length : Int)))) = false := decide_eq_false c4
   clear c4
   (first | rw [c4b0] | (simp only [i64_w, i32_w]; rw [c4b0]) | skip)
   have H' := Aside0.mk H
   clear H
   go_wp2
   go_meet
   case rel => exact ⟨_, H', ⟨by first | omega | exact Nat.le_refl _⟩, ⟨be0x8 HB.out⟩⟩
 case rest =>
  clear HC3
  try clear c1; try clear c4; try clear c4b0
  obtain ⟨kq, HA, HJ2, HB⟩ := hcut
  cases kq with
  | zero => exact absurd HA.out (by simp [laws_FnShifts.j0])
  | succ kj2 =>
   have H := HA.out
   clear HA
   simp only [laws_FnShifts.j0] at H
   replace H := Option.bind_eq_some_iff.mp H
   obtain ⟨⟨t377, t378, t379⟩, A50, H⟩ := H
   (try dsimp only at H)
   have A5 := Aside0.mk A50
   clear A50
   replace H := Option.bind_eq_some_iff.mp H
   obtain ⟨⟨t382, t383⟩, A60, H⟩ := H
   (try dsimp only at H)
   have A6 := Aside0.mk A60
   clear A60
   replace H := Option.bind_eq_some_iff.mp H
   obtain ⟨⟨t386, t387⟩, A70, H⟩ := H
   (try dsimp only at H)
   have A7 := Aside0.mk A70
   clear A70
   replace H := Option.bind_eq_some_iff.mp H
   obtain ⟨⟨t390, t391⟩, A80, H⟩ := H
   (try dsimp only at H)
   have A8 := Aside0.mk A80
   clear A80
   replace H := Option.bind_eq_some_iff.mp H
   obtain ⟨⟨t396, t397⟩, A90, H⟩ := H
   (try dsimp only at H)
   have A9 := Aside0.mk A90
   clear A90
   replace H := Option.bind_eq_some_iff.mp H
   obtain ⟨⟨t400, t401⟩, A100, H⟩ := H
   (try dsimp only at H)
   have A10 := Aside0.mk A100
   clear A100
   replace H := Option.bind_eq_some_iff.mp H
   obtain ⟨⟨t404, t405⟩, A110, H⟩ := H
   (try dsimp only at H)
   have A11 := Aside0.mk A110
   clear A110
   replace H := Option.bind_eq_some_iff.mp H
   obtain ⟨⟨t406, t407⟩, A120, H⟩ := H
   (try dsimp only at H)
   have A12 := Aside0.mk A120
   clear A120
   replace H := Option.bind_eq_some_iff.mp H
   obtain ⟨⟨t408, t409⟩, A130, H⟩ := H
   (try dsimp only at H)
   have A13 := Aside0.mk A130
   clear A130
   have HC14 := Aside0.mk H
   clear H
   go_upto_region 12 with (first | ((with_reducible refine gate_callee (f := 23) rfl ?_); refine goesL_ (some 49) rfl rfl Try.func23 (by kernel_rfl) rfl #[.slice A0 l0.length c0] rfl mpx8 ?_; (with_reducible refine (spec_DrawFleetReady.calls kj2 _ _ l0 t377 t378 t379 _ ?side1 ?side2 A5.out).mono ?_); (case side1 => exact rCx8 (Kd.C_below HR0.out HB.out)); (case side2 => exact HC0.out); rintro e w15 ⟨v380, rfl, ho0, hb⟩; refine ⟨_, rfl, ?_⟩; have HO381 := Aside0.mk (Kd.R_lower ho0 (below_size (be0x8 HB.out))); replace HB := Aside0.mk (below_step (be0x8 HB.out) hb); (try clear hb); (try clear hb2); (try clear hk); (try clear hi); (try clear ho0); obtain ⟨Ao16, co16, eo16⟩ := Kd.R_slice HO381.out; subst eo16) | ((with_reducible refine gate_callee (f := 24) rfl ?_); refine goesL_ (some 57) rfl rfl Try.func24 (by kernel_rfl) rfl #[.slice Ao16 t377.length co16, .int .i64 t378, .int .i64 t379] rfl mpx8 ?_; (with_reducible refine (impl_FleetReady.calls kj2 _ _ t377 t378 t379 t382 t383 _ ?side1 ?side2 A6.out).mono ?_); (case side1 => exact cRx8 HO381.out); (case side2 => exact (Kd.R_reads' HO381.out).2.1); rintro e w17 ⟨v384, rfl, ho0, hb⟩; refine ⟨_, rfl, ?_⟩; replace HO381 := Aside0.mk (Kd.R_below (rRx8 HO381.out) hb); have HO385 := Aside0.mk (Kd.R_lower ho0 (below_size (be0x8 HB.out))); replace HB := Aside0.mk (below_step (be0x8 HB.out) hb); (try clear hb); (try clear hb2); (try clear hk); (try clear hi); (try clear ho0)) | ((with_reducible refine gate_callee (f := 25) rfl ?_); refine goesL_ (some 64) rfl rfl Try.func25 (by kernel_rfl) rfl #[.slice Ao16 t377.length co16, .int .i64 t378, .int .i64 t379] rfl mpx8 ?_; (with_reducible refine (spec_FleetReady.calls kj2 _ _ t377 t378 t379 t386 t387 _ ?side1 ?side2 A7.out).mono ?_); (case side1 => exact cRx8 HO381.out); (case side2 => exact (Kd.R_reads' HO381.out).2.1); rintro e w18 ⟨v388, rfl, ho0, hb⟩; refine ⟨_, rfl, ?_⟩; replace HO381 := Aside0.mk (Kd.R_below (rRx8 HO381.out) hb); have HO389 := Aside0.mk (Kd.R_lower (nwx8 ho0 (rRx8 HO385.out)) (below_size (be0x8 HB.out))); replace HO385 := Aside0.mk (Kd.R_elder' (rRx8 HO385.out) (Kd.R_base ho0) hb); replace HB := Aside0.mk (below_step (be0x8 HB.out) hb); (try clear hb); (try clear hb2); (try clear hk); (try clear hi); (try clear ho0)) | ((with_reducible refine gate_callee (f := 26) rfl ?_); refine goesL_ (some 69) rfl rfl Try.func26 (by kernel_rfl) rfl #[.slice A1 l1.length c1] rfl mpx8 ?_; (with_reducible refine (spec_DrawWithCalendar.calls kj2 _ _ l1 t390 t391 _ ?side1 ?side2 A8.out).mono ?_); (case side1 => exact rCx8 (Kd.C_below HR1.out HB.out)); (case side2 => exact HC1.out); rintro e w19 ⟨v392, v394, rfl, ho0, ho1, hb⟩; refine ⟨_, rfl, ?_⟩; replace HO381 := Aside0.mk (Kd.R_below (rRx8 HO381.out) hb); have HO393 := Aside0.mk (Kd.R_lower ho0 (below_size (be0x8 HB.out))); have HO395 := Aside0.mk (Kd.R_lower (nwx8 (nwx8 ho1 (rRx8 HO385.out)) (rRx8 HO389.out)) (below_size (be0x8 HB.out))); replace HO385 := Aside0.mk (Kd.R_elder' (rRx8 HO385.out) (Kd.R_base ho1) hb); replace HO389 := Aside0.mk (Kd.R_elder' (rRx8 HO389.out) (Kd.R_base ho1) hb); replace HB := Aside0.mk (below_step (be0x8 HB.out) hb); (try clear hb); (try clear hb2); (try clear hk); (try clear hi); (try clear ho0); (try clear ho1); obtain ⟨Ao20, co20, eo20⟩ := Kd.R_slice HO393.out; subst eo20; obtain ⟨Ao21, co21, eo21⟩ := Kd.R_slice HO395.out; subst eo21) | ((with_reducible refine gate_callee (f := 27) rfl ?_); refine goesL_ (some 75) rfl rfl Try.func27 (by kernel_rfl) rfl #[.slice Ao20 t390.length co20, .slice Ao21 t391.length co21] rfl mpx8 ?_; (with_reducible refine (impl_WithCalendar.calls kj2 _ _ t390 _ _ t391 t396 t397 _ ?side1 ?side2 ?side3 ?side4 A9.out).mono ?_); (case side1 => exact cRx8 HO393.out); (case side2 => exact (Kd.R_reads' HO393.out).2.1); (case side3 => exact cRx8 HO395.out); (case side4 => exact (Kd.R_reads' HO395.out).2.1); rintro e w22 ⟨v398, rfl, ho0, hb⟩; refine ⟨_, rfl, ?_⟩; replace HO381 := Aside0.mk (Kd.R_below (rRx8 HO381.out) hb); replace HO385 := Aside0.mk (Kd.R_below (rRx8 HO385.out) hb); replace HO389 := Aside0.mk (Kd.R_below (rRx8 HO389.out) hb); replace HO395 := Aside0.mk (Kd.R_below (rRx8 HO395.out) hb); have HO399 := Aside0.mk (Kd.R_lower (nwx8 ho0 (rRx8 HO393.out)) (below_size (be0x8 HB.out))); replace HO393 := Aside0.mk (Kd.R_elder' (rRx8 HO393.out) (Kd.R_base ho0) hb); replace HB := Aside0.mk (below_step (be0x8 HB.out) hb); (try clear hb); (try clear hb2); (try clear hk); (try clear hi); (try clear ho0)) | ((with_reducible refine gate_callee (f := 28) rfl ?_); refine goesL_ (some 81) rfl rfl Try.func28 (by kernel_rfl) rfl #[.slice Ao20 t390.length co20, .slice Ao21 t391.length co21] rfl mpx8 ?_; (with_reducible refine (spec_WithCalendar.calls kj2 _ _ t390 _ _ t391 t400 t401 _ ?side1 ?side2 ?side3 ?side4 A10.out).mono ?_); (case side1 => exact cRx8 HO393.out); (case side2 => exact (Kd.R_reads' HO393.out).2.1); (case side3 => exact cRx8 HO395.out); (case side4 => exact (Kd.R_reads' HO395.out).2.1); rintro e w23 ⟨v402, rfl, ho0, hb⟩; refine ⟨_, rfl, ?_⟩; replace HO381 := Aside0.mk (Kd.R_below (rRx8 HO381.out) hb); replace HO385 := Aside0.mk (Kd.R_below (rRx8 HO385.out) hb); replace HO389 := Aside0.mk (Kd.R_below (rRx8 HO389.out) hb); replace HO395 := Aside0.mk (Kd.R_below (rRx8 HO395.out) hb); have HO403 := Aside0.mk (Kd.R_lower (nwx8 (nwx8 ho0 (rRx8 HO393.out)) (rRx8 HO399.out)) (below_size (be0x8 HB.out))); replace HO393 := Aside0.mk (Kd.R_elder' (rRx8 HO393.out) (Kd.R_base ho0) hb); replace HO399 := Aside0.mk (Kd.R_elder' (rRx8 HO399.out) (Kd.R_base ho0) hb); replace HB := Aside0.mk (below_step (be0x8 HB.out) hb); (try clear hb); (try clear hb2); (try clear hk); (try clear hi); (try clear ho0)) | ((with_reducible refine gate_callee (f := 22) rfl ?_); refine goesL_ (some 86) rfl rfl Try.func22 (by kernel_rfl) rfl #[.slice Ao20 t390.length co20] rfl mpx8 ?_; (with_reducible refine (impl_LongestDown.calls kj2 _ _ t390 t404 t405 _ ?side1 ?side2 A11.out).mono ?_); (case side1 => exact cRx8 HO393.out); (case side2 => exact (Kd.R_reads' HO393.out).2.1); rintro e w24 ⟨rfl, hb⟩; refine ⟨_, rfl, ?_⟩; replace HO381 := Aside0.mk (Kd.R_below (rRx8 HO381.out) hb); replace HO385 := Aside0.mk (Kd.R_below (rRx8 HO385.out) hb); replace HO389 := Aside0.mk (Kd.R_below (rRx8 HO389.out) hb); replace HO393 := Aside0.mk (Kd.R_below (rRx8 HO393.out) hb); replace HO395 := Aside0.mk (Kd.R_below (rRx8 HO395.out) hb); replace HO399 := Aside0.mk (Kd.R_below (rRx8 HO399.out) hb); replace HO403 := Aside0.mk (Kd.R_below (rRx8 HO403.out) hb); replace HB := Aside0.mk (below_step (be0x8 HB.out) hb); (try clear hb); (try clear hb2); (try clear hk); (try clear hi)) | ((with_reducible refine gate_callee (f := 29) rfl ?_); refine goesL_ (some 91) rfl rfl Try.func29 (by kernel_rfl) rfl #[.slice Ao20 t390.length co20] rfl mpx8 ?_; (with_reducible refine (spec_LongestDown.calls kj2 _ _ t390 t406 t407 _ ?side1 ?side2 A12.out).mono ?_); (case side1 => exact cRx8 HO393.out); (case side2 => exact (Kd.R_reads' HO393.out).2.1); rintro e w' ⟨rfl, ⟨nd, rfl⟩⟩; refine ⟨_, rfl, ?_⟩) | ((with_reducible refine gate_callee (f := 21) rfl ?_); refine goesL_ (some 96) rfl rfl Try.func21 (by kernel_rfl) rfl #[.slice Ao20 t390.length co20] rfl mpx8 ?_; (with_reducible refine (impl_ReadyIn.calls kj2 _ _ t390 t408 t409 _ ?side1 ?side2 A13.out).mono ?_); (case side1 => exact cRx8 HO393.out); (case side2 => exact (Kd.R_reads' HO393.out).2.1); rintro e w' ⟨rfl, ⟨nd, rfl⟩⟩; refine ⟨_, rfl, ?_⟩))
   (try simp only [Act.put, List.setIfInBounds_toArray, List.set_cons_zero, List.set_cons_succ])
   go_cut [24, 25] (fun v24 v25 wc => ∃ (kq : Nat) (x24_13 : Int) (x25_13 : Bool), v24 = .int .i64 x24_13 ∧ v25 = .bool x25_13 ∧ Aside0 (laws_FnShifts.j1 kq t377 t378 t379 t382 t383 t386 t387 t390 t391 t396 t397 t400 t401 t404 t405 t406 t407 t408 t409 x24_13 x25_13 = some r) ∧ Aside0 (kq ≤ kj2) ∧ Aside0 (Kd.R k24 24 wc w.heap.size (fun _ => True) (.slice Ao16 t377.length co16) t377) ∧ Aside0 (Kd.R (Kd.int .i64) 3 wc w.heap.size (fun k_ => some k_ ≠ (v388 : Value).ownBlock ∧ some k_ ≠ ((.slice Ao21 t391.length co21) : Value).ownBlock) v384 t382) ∧ Aside0 (Kd.R (Kd.int .i64) 3 wc w.heap.size (fun k_ => some k_ ≠ (v384 : Value).ownBlock ∧ some k_ ≠ ((.slice Ao21 t391.length co21) : Value).ownBlock) v388 t386) ∧ Aside0 (Kd.R Kd.bool 4 wc w.heap.size (fun k_ => some k_ ≠ (v398 : Value).ownBlock ∧ some k_ ≠ (v402 : Value).ownBlock) (.slice Ao20 t390.length co20) t390) ∧ Aside0 (Kd.R (Kd.int .i64) 3 wc w.heap.size (fun k_ => some k_ ≠ (v384 : Value).ownBlock ∧ some k_ ≠ (v388 : Value).ownBlock) (.slice Ao21 t391.length co21) t391) ∧ Aside0 (Kd.R Kd.bool 4 wc w.heap.size (fun k_ => some k_ ≠ ((.slice Ao20 t390.length co20) : Value).ownBlock ∧ some k_ ≠ (v402 : Value).ownBlock) v398 t396) ∧ Aside0 (Kd.R Kd.bool 4 wc w.heap.size (fun k_ => some k_ ≠ ((.slice Ao20 t390.length co20) : Value).ownBlock ∧ some k_ ≠ (v398 : Value).ownBlock) v402 t400) ∧ Aside0 (Below w.heap.size w wc))
   case first =>
    as_aux_lemma =>
    have H := HC14.out
    clear HC14
    replace H := Option.bind_eq_some_iff.mp H
    obtain ⟨⟨t410, t411⟩, A250, H⟩ := H
    (try dsimp only at H)
    have A25 := Aside0.mk A250
    clear A250
    have H' := Aside0.mk H
    clear H
    go_wp2_with (first | ((with_reducible refine gate_callee (f := 30) rfl ?_); refine goesL_ (some 101) rfl rfl Try.func30 (by kernel_rfl) rfl #[.slice Ao20 t390.length co20] rfl mpx8 ?_; (with_reducible refine (spec_ReadyIn.calls kj2 _ _ t390 t410 t411 _ ?side1 ?side2 A25.out).mono ?_); (case side1 => exact cRx8 HO393.out); (case side2 => exact (Kd.R_reads' HO393.out).2.1); rintro e w' ⟨rfl, ⟨nd, rfl⟩⟩; refine ⟨_, rfl, ?_⟩))
    go_meet
    case rel => exact ⟨_, (t410), (t411), (by first | rfl | (simp; done) | (simp [*]; done)), (by first | rfl | (simp; done) | (simp [*]; done)), H', ⟨by have := HJ2.out; first | omega | exact Nat.le_refl _⟩, ⟨rRx8 HO381.out⟩, ⟨by exact rRx8 (mox8 HO385.out)⟩, ⟨by exact rRx8 (mox8 HO389.out)⟩, ⟨by exact rRx8 (mox8 HO393.out)⟩, ⟨by exact rRx8 (mox8 HO395.out)⟩, ⟨by exact rRx8 (mox8 HO399.out)⟩, ⟨by exact rRx8 (mox8 HO403.out)⟩, ⟨be0x8 HB.out⟩⟩
   case rest =>
    clear HC14
    try clear c1
    obtain ⟨kq, x24_13, x25_13, rfl, rfl, HA, HJ13, HO_5, HO_8, HO_10, HO_12, HO_13, HO_14, HO_16, HB⟩ := hcut
    cases kq with
    | zero => exact absurd HA.out (by simp [laws_FnShifts.j1])
    | succ kj13 =>
     have H := HA.out
     clear HA
     simp only [laws_FnShifts.j1] at H
     have HC26 := Aside0.mk H
     clear H
     go_upto_region 13 with (fail)
     go_cut [143] (fun v143 wc => ∃ (kq : Nat) (x143_25 : Bool), v143 = .bool x143_25 ∧ Aside0 (laws_FnShifts.j2 kq t377 t378 t379 t383 t386 t390 t391 t396 t397 t400 t406 x24_13 x143_25 = some r) ∧ Aside0 (kq ≤ kj13) ∧ Aside0 (Kd.R k24 24 wc w.heap.size (fun _ => True) (.slice Ao16 t377.length co16) t377) ∧ Aside0 (Kd.R (Kd.int .i64) 3 wc w.heap.size (fun k_ => some k_ ≠ ((.slice Ao21 t391.length co21) : Value).ownBlock) v388 t386) ∧ Aside0 (Kd.R Kd.bool 4 wc w.heap.size (fun k_ => some k_ ≠ (v398 : Value).ownBlock ∧ some k_ ≠ (v402 : Value).ownBlock) (.slice Ao20 t390.length co20) t390) ∧ Aside0 (Kd.R (Kd.int .i64) 3 wc w.heap.size (fun k_ => some k_ ≠ (v388 : Value).ownBlock) (.slice Ao21 t391.length co21) t391) ∧ Aside0 (Kd.R Kd.bool 4 wc w.heap.size (fun k_ => some k_ ≠ ((.slice Ao20 t390.length co20) : Value).ownBlock ∧ some k_ ≠ (v402 : Value).ownBlock) v398 t396) ∧ Aside0 (Kd.R Kd.bool 4 wc w.heap.size (fun k_ => some k_ ≠ ((.slice Ao20 t390.length co20) : Value).ownBlock ∧ some k_ ≠ (v398 : Value).ownBlock) v402 t400) ∧ Aside0 (Below w.heap.size w wc))
     case first =>
      as_aux_lemma =>
      have H := HC26.out
      clear HC26
      by_cases c27 : (t383 != t387) = true
      ·rw [if_pos c27] at H
       have c27b0 : (t383 != t387) = true := c27
       (try (have c27b1 : decide (t383 = t387) = false := by simpa using c27))
       (try (have c27b2 : (t383 == t387) = false := by simpa using c27))
       (try (have c27b3 : ¬ (t383 = t387) := by simpa using c27))
       clear c27
       (first | rw [c27b0] | (simp only [i64_w, i32_w]; rw [c27b0]) | skip)
       have H' := Aside0.mk H
       clear H
       go_wp2
       go_meet
       case rel => exact ⟨_, (true), (by first | rfl | (simp; done) | (simp [*]; done)), H', ⟨by have := HJ2.out; have := HJ13.out; first | omega | exact Nat.le_refl _⟩, ⟨rRx8 HO_5.out⟩, ⟨by exact rRx8 (Kd.R_mono HO_10.out (fun _ hk => hk.2))⟩, ⟨rRx8 HO_12.out⟩, ⟨by exact rRx8 (Kd.R_mono HO_13.out (fun _ hk => hk.2))⟩, ⟨rRx8 HO_14.out⟩, ⟨rRx8 HO_16.out⟩, ⟨be0x8 HB.out⟩⟩
      ·rw [if_neg c27] at H
       have c27b0 : (t383 != t387) = false := by simpa using c27
       (try (have c27b1 : decide (t383 = t387) = true := by simpa using c27))
       (try (have c27b2 : (t383 == t387) = true := by simpa using c27))
       clear c27
       (first | rw [c27b0] | (simp only [i64_w, i32_w]; rw [c27b0]) | skip)
       replace H := Option.bind_eq_some_iff.mp H
       obtain ⟨t412, A280, H⟩ := H
       have A28 := Aside0.mk A280
       clear A280
       by_cases c29 : t412 = true
       ·subst c29
        have H1 : (if (t397 != t401) = true then (laws_FnShifts.j2 kj13 t377 t378 t379 t383 t386 t390 t391 t396 t397 t400 t406 x24_13 true) else ((laws_qBools.f kj13 t396 t400).bind fun t413 => (if t413 = true then (if (t405 != t407) = true then (laws_FnShifts.j2 kj13 t377 t378 t379 t383 t386 t390 t391 t396 t397 t400 t406 x24_13 true) else (if t404 = t406 then (if (t409 != x25_13) = true then (laws_FnShifts.j2 kj13 t377 t378 t379 t383 t386 t390 t391 t396 t397 t400 t406 x24_13 true) else (laws_FnShifts.j2 kj13 t377 t378 t379 t383 t386 t390 t391 t396 t397 t400 t406 x24_13 (t408 != x24_13))) else (laws_FnShifts.j2 kj13 t377 t378 t379 t383 t386 t390 t391 t396 t397 t400 t406 x24_13 true))) else (laws_FnShifts.j2 kj13 t377 t378 t379 t383 t386 t390 t391 t396 t397 t400 t406 x24_13 true)))) = some r := by rw [if_pos rfl] at H; exact H
        clear H
        have H := H1
        clear H1
        by_cases c30 : (t397 != t401) = true
        ·rw [if_pos c30] at H
         have c30b0 : (t397 != t401) = true := c30
         (try (have c30b1 : decide (t397 = t401) = false := by simpa using c30))
         (try (have c30b2 : (t397 == t401) = false := by simpa using c30))
         (try (have c30b3 : ¬ (t397 = t401) := by simpa using c30))
         clear c30
         have H' := Aside0.mk H
         clear H
         obtain ⟨Ao31, co31, eo31⟩ := Kd.R_slice HO_8.out
         subst eo31
         obtain ⟨Ao32, co32, eo32⟩ := Kd.R_slice HO_10.out
         subst eo32
         go_wp2_with (first | (go_at_call 31; (with_reducible refine (laws_qInts.calls kj13 _ _ t382 _ _ t386 true _ ?side1 ?side2 ?side3 ?side4 A28.out).mono ?_); (case side1 => exact cRx8 HO_8.out); (case side2 => exact (Kd.R_reads' HO_8.out).2.1); (case side3 => exact cRx8 HO_10.out); (case side4 => exact (Kd.R_reads' HO_10.out).2.1); rintro e w' ⟨rfl, ⟨nd, rfl⟩⟩))
         go_meet
         case rel => exact ⟨_, (true), (by first | rfl | (simp; done) | (simp [*]; done)), H', ⟨by have := HJ2.out; have := HJ13.out; first | omega | exact Nat.le_refl _⟩, ⟨rRx8 HO_5.out⟩, ⟨by exact rRx8 (Kd.R_mono HO_10.out (fun _ hk => hk.2))⟩, ⟨rRx8 HO_12.out⟩, ⟨by exact rRx8 (Kd.R_mono HO_13.out (fun _ hk => hk.2))⟩, ⟨rRx8 HO_14.out⟩, ⟨rRx8 HO_16.out⟩, ⟨be0x8 HB.out⟩⟩
        ·rw [if_neg c30] at H
         have c30b0 : (t397 != t401) = false := by simpa using c30
         (try (have c30b1 : decide (t397 = t401) = true := by simpa using c30))
         (try (have c30b2 : (t397 == t401) = true := by simpa using c30))
         clear c30
         replace H := Option.bind_eq_some_iff.mp H
         obtain ⟨t413, A330, H⟩ := H
         have A33 := Aside0.mk A330
         clear A330
         by_cases c34 : t413 = true
         ·subst c34
          have H1 : (if (t405 != t407) = true then (laws_FnShifts.j2 kj13 t377 t378 t379 t383 t386 t390 t391 t396 t397 t400 t406 x24_13 true) else (if t404 = t406 then (if (t409 != x25_13) = true then (laws_FnShifts.j2 kj13 t377 t378 t379 t383 t386 t390 t391 t396 t397 t400 t406 x24_13 true) else (laws_FnShifts.j2 kj13 t377 t378 t379 t383 t386 t390 t391 t396 t397 t400 t406 x24_13 (t408 != x24_13))) else (laws_FnShifts.j2 kj13 t377 t378 t379 t383 t386 t390 t391 t396 t397 t400 t406 x24_13 true))) = some r := by rw [if_pos rfl] at H; exact H
          clear H
          have H := H1
          clear H1
          by_cases c35 : (t405 != t407) = true
          ·rw [if_pos c35] at H
           have c35b0 : (t405 != t407) = true := c35
           (try (have c35b1 : decide (t405 = t407) = false := by simpa using c35))
           (try (have c35b2 : (t405 == t407) = false := by simpa using c35))
           (try (have c35b3 : ¬ (t405 = t407) := by simpa using c35))
           clear c35
           have H' := Aside0.mk H
           clear H
           obtain ⟨Ao36, co36, eo36⟩ := Kd.R_slice HO_8.out
           subst eo36
           obtain ⟨Ao37, co37, eo37⟩ := Kd.R_slice HO_10.out
           subst eo37
           go_wp2_with (first | (go_at_call 31; (with_reducible refine (laws_qInts.calls kj13 _ _ t382 _ _ t386 true _ ?side1 ?side2 ?side3 ?side4 A28.out).mono ?_); (case side1 => exact cRx8 HO_8.out); (case side2 => exact (Kd.R_reads' HO_8.out).2.1); (case side3 => exact cRx8 HO_10.out); (case side4 => exact (Kd.R_reads' HO_10.out).2.1); rintro e w' ⟨rfl, ⟨nd, rfl⟩⟩; obtain ⟨Ao38, co38, eo38⟩ := Kd.R_slice HO_14.out; subst eo38; obtain ⟨Ao39, co39, eo39⟩ := Kd.R_slice HO_16.out; subst eo39) | (go_at_call 18; (with_reducible refine (laws_qBools.calls kj13 _ _ t396 _ _ t400 true _ ?side1 ?side2 ?side3 ?side4 A33.out).mono ?_); (case side1 => exact cRx8 HO_14.out); (case side2 => exact (Kd.R_reads' HO_14.out).2.1); (case side3 => exact cRx8 HO_16.out); (case side4 => exact (Kd.R_reads' HO_16.out).2.1); rintro e w' ⟨rfl, ⟨nd, rfl⟩⟩))
           go_meet
           case rel => exact ⟨_, (true), (by first | rfl | (simp; done) | (simp [*]; done)), H', ⟨by have := HJ2.out; have := HJ13.out; first | omega | exact Nat.le_refl _⟩, ⟨rRx8 HO_5.out⟩, ⟨by exact rRx8 (Kd.R_mono HO_10.out (fun _ hk => hk.2))⟩, ⟨rRx8 HO_12.out⟩, ⟨by exact rRx8 (Kd.R_mono HO_13.out (fun _ hk => hk.2))⟩, ⟨rRx8 HO_14.out⟩, ⟨rRx8 HO_16.out⟩, ⟨be0x8 HB.out⟩⟩
          ·rw [if_neg c35] at H
           have c35b0 : (t405 != t407) = false := by simpa using c35
           (try (have c35b1 : decide (t405 = t407) = true := by simpa using c35))
           (try (have c35b2 : (t405 == t407) = true := by simpa using c35))
           clear c35
           by_cases c40 : t404 = t406
           ·rw [if_pos c40] at H
            have c40b0 : (t404 == t406) = true := beq_iff_eq.mpr c40
            have c40b1 : (t404 != t406) = false := bne_eq_false_iff_eq.mpr c40
            clear c40
            by_cases c41 : (t409 != x25_13) = true
            ·rw [if_pos c41] at H
             have c41b0 : (t409 != x25_13) = true := c41
             (try (have c41b1 : decide (t409 = x25_13) = false := by simpa using c41))
             (try (have c41b2 : (t409 == x25_13) = false := by simpa using c41))
             (try (have c41b3 : ¬ (t409 = x25_13) := by simpa using c41))
             clear c41
             have H' := Aside0.mk H
             clear H
             obtain ⟨Ao42, co42, eo42⟩ := Kd.R_slice HO_8.out
             subst eo42
             obtain ⟨Ao43, co43, eo43⟩ := Kd.R_slice HO_10.out
             subst eo43
             go_wp2_with (first | (go_at_call 31; (with_reducible refine (laws_qInts.calls kj13 _ _ t382 _ _ t386 true _ ?side1 ?side2 ?side3 ?side4 A28.out).mono ?_); (case side1 => exact cRx8 HO_8.out); (case side2 => exact (Kd.R_reads' HO_8.out).2.1); (case side3 => exact cRx8 HO_10.out); (case side4 => exact (Kd.R_reads' HO_10.out).2.1); rintro e w' ⟨rfl, ⟨nd, rfl⟩⟩; obtain ⟨Ao44, co44, eo44⟩ := Kd.R_slice HO_14.out; subst eo44; obtain ⟨Ao45, co45, eo45⟩ := Kd.R_slice HO_16.out; subst eo45) | (go_at_call 18; (with_reducible refine (laws_qBools.calls kj13 _ _ t396 _ _ t400 true _ ?side1 ?side2 ?side3 ?side4 A33.out).mono ?_); (case side1 => exact cRx8 HO_14.out); (case side2 => exact (Kd.R_reads' HO_14.out).2.1); (case side3 => exact cRx8 HO_16.out); (case side4 => exact (Kd.R_reads' HO_16.out).2.1); rintro e w' ⟨rfl, ⟨nd, rfl⟩⟩))
             go_meet
             case rel => exact ⟨_, (true), (by first | rfl | (simp; done) | (simp [*]; done)), H', ⟨by have := HJ2.out; have := HJ13.out; first | omega | exact Nat.le_refl _⟩, ⟨rRx8 HO_5.out⟩, ⟨by exact rRx8 (Kd.R_mono HO_10.out (fun _ hk => hk.2))⟩, ⟨rRx8 HO_12.out⟩, ⟨by exact rRx8 (Kd.R_mono HO_13.out (fun _ hk => hk.2))⟩, ⟨rRx8 HO_14.out⟩, ⟨rRx8 HO_16.out⟩, ⟨be0x8 HB.out⟩⟩
            ·rw [if_neg c41] at H
             have c41b0 : (t409 != x25_13) = false := by simpa using c41
             (try (have c41b1 : decide (t409 = x25_13) = true := by simpa using c41))
             (try (have c41b2 : (t409 == x25_13) = true := by simpa using c41))
             clear c41
             have H' := Aside0.mk H
             clear H
             obtain ⟨Ao46, co46, eo46⟩ := Kd.R_slice HO_8.out
             subst eo46
             obtain ⟨Ao47, co47, eo47⟩ := Kd.R_slice HO_10.out
             subst eo47
             go_wp2_with (first | (go_at_call 31; (with_reducible refine (laws_qInts.calls kj13 _ _ t382 _ _ t386 true _ ?side1 ?side2 ?side3 ?side4 A28.out).mono ?_); (case side1 => exact cRx8 HO_8.out); (case side2 => exact (Kd.R_reads' HO_8.out).2.1); (case side3 => exact cRx8 HO_10.out); (case side4 => exact (Kd.R_reads' HO_10.out).2.1); rintro e w' ⟨rfl, ⟨nd, rfl⟩⟩; obtain ⟨Ao48, co48, eo48⟩ := Kd.R_slice HO_14.out; subst eo48; obtain ⟨Ao49, co49, eo49⟩ := Kd.R_slice HO_16.out; subst eo49) | (go_at_call 18; (with_reducible refine (laws_qBools.calls kj13 _ _ t396 _ _ t400 true _ ?side1 ?side2 ?side3 ?side4 A33.out).mono ?_); (case side1 => exact cRx8 HO_14.out); (case side2 => exact (Kd.R_reads' HO_14.out).2.1); (case side3 => exact cRx8 HO_16.out); (case side4 => exact (Kd.R_reads' HO_16.out).2.1); rintro e w' ⟨rfl, ⟨nd, rfl⟩⟩))
             go_meet
             case rel => exact ⟨_, ((t408 != x24_13)), (by first | rfl | (simp; done) | (simp [*]; done)), H', ⟨by have := HJ2.out; have := HJ13.out; first | omega | exact Nat.le_refl _⟩, ⟨rRx8 HO_5.out⟩, ⟨by exact rRx8 (Kd.R_mono HO_10.out (fun _ hk => hk.2))⟩, ⟨rRx8 HO_12.out⟩, ⟨by exact rRx8 (Kd.R_mono HO_13.out (fun _ hk => hk.2))⟩, ⟨rRx8 HO_14.out⟩, ⟨rRx8 HO_16.out⟩, ⟨be0x8 HB.out⟩⟩
           ·rw [if_neg c40] at H
            have c40b0 : (t404 == t406) = false := beq_eq_false_iff_ne.mpr c40
            have c40b1 : (t404 != t406) = true := bne_iff_ne.mpr c40
            have H' := Aside0.mk H
            clear H
            obtain ⟨Ao50, co50, eo50⟩ := Kd.R_slice HO_8.out
            subst eo50
            obtain ⟨Ao51, co51, eo51⟩ := Kd.R_slice HO_10.out
            subst eo51
            go_wp2_with (first | (go_at_call 31; (with_reducible refine (laws_qInts.calls kj13 _ _ t382 _ _ t386 true _ ?side1 ?side2 ?side3 ?side4 A28.out).mono ?_); (case side1 => exact cRx8 HO_8.out); (case side2 => exact (Kd.R_reads' HO_8.out).2.1); (case side3 => exact cRx8 HO_10.out); (case side4 => exact (Kd.R_reads' HO_10.out).2.1); rintro e w' ⟨rfl, ⟨nd, rfl⟩⟩; obtain ⟨Ao52, co52, eo52⟩ := Kd.R_slice HO_14.out; subst eo52; obtain ⟨Ao53, co53, eo53⟩ := Kd.R_slice HO_16.out; subst eo53) | (go_at_call 18; (with_reducible refine (laws_qBools.calls kj13 _ _ t396 _ _ t400 true _ ?side1 ?side2 ?side3 ?side4 A33.out).mono ?_); (case side1 => exact cRx8 HO_14.out); (case side2 => exact (Kd.R_reads' HO_14.out).2.1); (case side3 => exact cRx8 HO_16.out); (case side4 => exact (Kd.R_reads' HO_16.out).2.1); rintro e w' ⟨rfl, ⟨nd, rfl⟩⟩))
            go_meet
            case rel => exact ⟨_, (true), (by first | rfl | (simp; done) | (simp [*]; done)), H', ⟨by have := HJ2.out; have := HJ13.out; first | omega | exact Nat.le_refl _⟩, ⟨rRx8 HO_5.out⟩, ⟨by exact rRx8 (Kd.R_mono HO_10.out (fun _ hk => hk.2))⟩, ⟨rRx8 HO_12.out⟩, ⟨by exact rRx8 (Kd.R_mono HO_13.out (fun _ hk => hk.2))⟩, ⟨rRx8 HO_14.out⟩, ⟨rRx8 HO_16.out⟩, ⟨be0x8 HB.out⟩⟩
         ·replace c34 := Bool.eq_false_iff.mpr c34
          subst c34
          have H1 : (laws_FnShifts.j2 kj13 t377 t378 t379 t383 t386 t390 t391 t396 t397 t400 t406 x24_13 true) = some r := by rw [if_neg (show ¬ (false = true) by decide)] at H; exact H
          clear H
          have H := H1
          clear H1
          have H' := Aside0.mk H
          clear H
          obtain ⟨Ao54, co54, eo54⟩ := Kd.R_slice HO_8.out
          subst eo54
          obtain ⟨Ao55, co55, eo55⟩ := Kd.R_slice HO_10.out
          subst eo55
          go_wp2_with (first | (go_at_call 31; (with_reducible refine (laws_qInts.calls kj13 _ _ t382 _ _ t386 true _ ?side1 ?side2 ?side3 ?side4 A28.out).mono ?_); (case side1 => exact cRx8 HO_8.out); (case side2 => exact (Kd.R_reads' HO_8.out).2.1); (case side3 => exact cRx8 HO_10.out); (case side4 => exact (Kd.R_reads' HO_10.out).2.1); rintro e w' ⟨rfl, ⟨nd, rfl⟩⟩; obtain ⟨Ao56, co56, eo56⟩ := Kd.R_slice HO_14.out; subst eo56; obtain ⟨Ao57, co57, eo57⟩ := Kd.R_slice HO_16.out; subst eo57) | (go_at_call 18; (with_reducible refine (laws_qBools.calls kj13 _ _ t396 _ _ t400 false _ ?side1 ?side2 ?side3 ?side4 A33.out).mono ?_); (case side1 => exact cRx8 HO_14.out); (case side2 => exact (Kd.R_reads' HO_14.out).2.1); (case side3 => exact cRx8 HO_16.out); (case side4 => exact (Kd.R_reads' HO_16.out).2.1); rintro e w' ⟨rfl, ⟨nd, rfl⟩⟩))
          go_meet
          case rel => exact ⟨_, (true), (by first | rfl | (simp; done) | (simp [*]; done)), H', ⟨by have := HJ2.out; have := HJ13.out; first | omega | exact Nat.le_refl _⟩, ⟨rRx8 HO_5.out⟩, ⟨by exact rRx8 (Kd.R_mono HO_10.out (fun _ hk => hk.2))⟩, ⟨rRx8 HO_12.out⟩, ⟨by exact rRx8 (Kd.R_mono HO_13.out (fun _ hk => hk.2))⟩, ⟨rRx8 HO_14.out⟩, ⟨rRx8 HO_16.out⟩, ⟨be0x8 HB.out⟩⟩
       ·replace c29 := Bool.eq_false_iff.mpr c29
        subst c29
        have H1 : (laws_FnShifts.j2 kj13 t377 t378 t379 t383 t386 t390 t391 t396 t397 t400 t406 x24_13 true) = some r := by rw [if_neg (show ¬ (false = true) by decide)] at H; exact H
        clear H
        have H := H1
        clear H1
        have H' := Aside0.mk H
        clear H
        obtain ⟨Ao58, co58, eo58⟩ := Kd.R_slice HO_8.out
        subst eo58
        obtain ⟨Ao59, co59, eo59⟩ := Kd.R_slice HO_10.out
        subst eo59
        go_wp2_with (first | (go_at_call 31; (with_reducible refine (laws_qInts.calls kj13 _ _ t382 _ _ t386 false _ ?side1 ?side2 ?side3 ?side4 A28.out).mono ?_); (case side1 => exact cRx8 HO_8.out); (case side2 => exact (Kd.R_reads' HO_8.out).2.1); (case side3 => exact cRx8 HO_10.out); (case side4 => exact (Kd.R_reads' HO_10.out).2.1); rintro e w' ⟨rfl, ⟨nd, rfl⟩⟩))
        go_meet
        case rel => exact ⟨_, (true), (by first | rfl | (simp; done) | (simp [*]; done)), H', ⟨by have := HJ2.out; have := HJ13.out; first | omega | exact Nat.le_refl _⟩, ⟨rRx8 HO_5.out⟩, ⟨by exact rRx8 (Kd.R_mono HO_10.out (fun _ hk => hk.2))⟩, ⟨rRx8 HO_12.out⟩, ⟨by exact rRx8 (Kd.R_mono HO_13.out (fun _ hk => hk.2))⟩, ⟨rRx8 HO_14.out⟩, ⟨rRx8 HO_16.out⟩, ⟨be0x8 HB.out⟩⟩
     case rest =>
      clear HC26
      try clear c27; try clear c27b0; try clear c27b1; try clear c27b2; try clear c29; try clear c30; try clear c30b0; try clear c30b1; try clear c30b2; try clear c34; try clear c35; try clear c35b0; try clear c35b1; try clear c35b2; try clear c40; try clear c40b0; try clear c40b1; try clear c41; try clear c41b0; try clear c41b1; try clear c41b2
      obtain ⟨kq, x143_25, rfl, HA, HJ25, HO_5, HO_10, HO_12, HO_13, HO_14, HO_16, HB⟩ := hcut
      cases kq with
      | zero => exact absurd HA.out (by simp [laws_FnShifts.j2])
      | succ kj25 =>
       have H := HA.out
       clear HA
       simp only [laws_FnShifts.j2] at H
       have HC60 := Aside0.mk H
       clear H
       go_upto_if 143 with (fail)
       go_cut [] (fun wc => ∃ (kq : Nat), Aside0 (laws_FnShifts.j3 kq t377 t378 t379 t383 t386 t390 t391 t396 t397 t400 t406 x24_13 = some r) ∧ Aside0 (kq ≤ kj25) ∧ Aside0 (Kd.R k24 24 wc w.heap.size (fun _ => True) (.slice Ao16 t377.length co16) t377) ∧ Aside0 (Kd.R (Kd.int .i64) 3 wc w.heap.size (fun k_ => some k_ ≠ ((.slice Ao21 t391.length co21) : Value).ownBlock) v388 t386) ∧ Aside0 (Kd.R Kd.bool 4 wc w.heap.size (fun k_ => some k_ ≠ (v398 : Value).ownBlock ∧ some k_ ≠ (v402 : Value).ownBlock) (.slice Ao20 t390.length co20) t390) ∧ Aside0 (Kd.R (Kd.int .i64) 3 wc w.heap.size (fun k_ => some k_ ≠ (v388 : Value).ownBlock) (.slice Ao21 t391.length co21) t391) ∧ Aside0 (Kd.R Kd.bool 4 wc w.heap.size (fun k_ => some k_ ≠ ((.slice Ao20 t390.length co20) : Value).ownBlock ∧ some k_ ≠ (v402 : Value).ownBlock) v398 t396) ∧ Aside0 (Kd.R Kd.bool 4 wc w.heap.size (fun k_ => some k_ ≠ ((.slice Ao20 t390.length co20) : Value).ownBlock ∧ some k_ ≠ (v398 : Value).ownBlock) v402 t400) ∧ Aside0 (Below w.heap.size w wc))
       case first =>
        as_aux_lemma =>
        have H := HC60.out
        clear HC60
        by_cases c61 : x143_25 = true
        ·subst c61
         have H1 : (some false) = some r := by rw [if_pos rfl] at H; exact H
         clear H
         have H := H1
         clear H1
         obtain rfl := Option.some.inj H
         go_wp2
         go_ret
         exact ⟨by first | rfl | (simp [errW_none, errW_some] <;> rfl) | (simp [*, errW_none, errW_some] <;> rfl), be0x8 HB.out⟩
        ·replace c61 := Bool.eq_false_iff.mpr c61
         subst c61
         have H1 : (laws_FnShifts.j3 kj25 t377 t378 t379 t383 t386 t390 t391 t396 t397 t400 t406 x24_13) = some r := by rw [if_neg (show ¬ (false = true) by decide)] at H; exact H
         clear H
         have H := H1
         clear H1
         have H' := Aside0.mk H
         clear H
         go_wp2
         go_meet
         case rel => exact ⟨_, H', ⟨by have := HJ2.out; have := HJ13.out; have := HJ25.out; first | omega | exact Nat.le_refl _⟩, ⟨rRx8 HO_5.out⟩, ⟨rRx8 HO_10.out⟩, ⟨rRx8 HO_12.out⟩, ⟨rRx8 HO_13.out⟩, ⟨rRx8 HO_14.out⟩, ⟨rRx8 HO_16.out⟩, ⟨be0x8 HB.out⟩⟩
       case rest =>
        clear HC60
        try clear c61
        obtain ⟨kq, HA, HJ59, HO_5, HO_10, HO_12, HO_13, HO_14, HO_16, HB⟩ := hcut
        cases kq with
        | zero => exact absurd HA.out (by simp [laws_FnShifts.j3])
        | succ kj59 =>
         have H := HA.out
         clear HA
         simp only [laws_FnShifts.j3] at H
         have HC62 := Aside0.mk H
         clear H
         go_upto_if 144 with (fail)
         go_cut [] (fun wc => ∃ (kq : Nat), Aside0 (laws_FnShifts.j7 kq t377 t378 t379 t383 t386 = some r) ∧ Aside0 (kq ≤ kj59) ∧ Aside0 (Kd.R k24 24 wc w.heap.size (fun _ => True) (.slice Ao16 t377.length co16) t377) ∧ Aside0 (Kd.R (Kd.int .i64) 3 wc w.heap.size (fun _ => True) v388 t386) ∧ Aside0 (Below w.heap.size w wc))
         case first =>
          as_aux_lemma =>
          have H := HC62.out
          clear HC62
          by_cases c63 : t397 = true
          ·subst c63
           have H1 : ((impl_ReadyIn.f kj59 t396).bind fun bt414 => ((impl_LongestDown.f kj59 t396).bind fun bt416 => (if bt414.2 = true then (if bt416.2 = true then (if bt414.1 > x24_13 then (laws_FnShifts.j4 kj59 t377 t378 t379 t383 t386 t390 t391 t400 true) else (if bt416.1 < t406 then (laws_FnShifts.j4 kj59 t377 t378 t379 t383 t386 t390 t391 t400 true) else (laws_FnShifts.j4 kj59 t377 t378 t379 t383 t386 t390 t391 t400 (decide (bt414.1 < (wrap64 (x24_13 - (t391.length : Int)))))))) else (laws_FnShifts.j4 kj59 t377 t378 t379 t383 t386 t390 t391 t400 true)) else (laws_FnShifts.j4 kj59 t377 t378 t379 t383 t386 t390 t391 t400 true)))) = some r := by rw [if_pos rfl] at H; exact H
           clear H
           have H := H1
           clear H1
           replace H := Option.bind_eq_some_iff.mp H
           obtain ⟨⟨t414, t415⟩, A640, H⟩ := H
           (try dsimp only at H)
           have A64 := Aside0.mk A640
           clear A640
           replace H := Option.bind_eq_some_iff.mp H
           obtain ⟨⟨t416, t417⟩, A650, H⟩ := H
           (try dsimp only at H)
           have A65 := Aside0.mk A650
           clear A650
           have HC66 := Aside0.mk H
           clear H
           obtain ⟨Ao67, co67, eo67⟩ := Kd.R_slice HO_14.out
           subst eo67
           go_upto_region 18 with (first | ((with_reducible refine gate_callee (f := 21) rfl ?_); refine goesL_ (some 147) rfl rfl Try.func21 (by kernel_rfl) rfl #[.slice Ao67 t396.length co67] rfl mpx8 ?_; (with_reducible refine (impl_ReadyIn.calls kj59 _ _ t396 t414 t415 _ ?side1 ?side2 A64.out).mono ?_); (case side1 => exact cRx8 HO_14.out); (case side2 => exact (Kd.R_reads' HO_14.out).2.1); rintro e w' ⟨rfl, ⟨nd, rfl⟩⟩; refine ⟨_, rfl, ?_⟩) | ((with_reducible refine gate_callee (f := 22) rfl ?_); refine goesL_ (some 152) rfl rfl Try.func22 (by kernel_rfl) rfl #[.slice Ao67 t396.length co67] rfl mpx8 ?_; (with_reducible refine (impl_LongestDown.calls kj59 _ _ t396 t416 t417 _ ?side1 ?side2 A65.out).mono ?_); (case side1 => exact cRx8 HO_14.out); (case side2 => exact (Kd.R_reads' HO_14.out).2.1); rintro e w68 ⟨rfl, hb⟩; refine ⟨_, rfl, ?_⟩; replace HO_5 := Aside0.mk (Kd.R_below (rRx8 HO_5.out) hb); replace HO_10 := Aside0.mk (Kd.R_below (rRx8 HO_10.out) hb); replace HO_12 := Aside0.mk (Kd.R_below (rRx8 HO_12.out) hb); replace HO_13 := Aside0.mk (Kd.R_below (rRx8 HO_13.out) hb); replace HO_14 := Aside0.mk (Kd.R_below (rRx8 HO_14.out) hb); replace HO_16 := Aside0.mk (Kd.R_below (rRx8 HO_16.out) hb); replace HB := Aside0.mk (below_step (be0x8 HB.out) hb); (try clear hb); (try clear hb2); (try clear hk); (try clear hi)))
           (try simp only [Act.put, List.setIfInBounds_toArray, List.set_cons_zero, List.set_cons_succ])
           go_cut [178] (fun v178 wc => ∃ (kq : Nat) (x178_65 : Bool), v178 = .bool x178_65 ∧ Aside0 (laws_FnShifts.j4 kq t377 t378 t379 t383 t386 t390 t391 t400 x178_65 = some r) ∧ Aside0 (kq ≤ kj59) ∧ Aside0 (Kd.R k24 24 wc w.heap.size (fun _ => True) (.slice Ao16 t377.length co16) t377) ∧ Aside0 (Kd.R (Kd.int .i64) 3 wc w.heap.size (fun k_ => some k_ ≠ ((.slice Ao21 t391.length co21) : Value).ownBlock) v388 t386) ∧ Aside0 (Kd.R Kd.bool 4 wc w.heap.size (fun k_ => some k_ ≠ (v402 : Value).ownBlock) (.slice Ao20 t390.length co20) t390) ∧ Aside0 (Kd.R (Kd.int .i64) 3 wc w.heap.size (fun k_ => some k_ ≠ (v388 : Value).ownBlock) (.slice Ao21 t391.length co21) t391) ∧ Aside0 (Kd.R Kd.bool 4 wc w.heap.size (fun k_ => some k_ ≠ ((.slice Ao20 t390.length co20) : Value).ownBlock) v402 t400) ∧ Aside0 (Below w.heap.size w wc))
           case first =>
            as_aux_lemma =>
            have H := HC66.out
            clear HC66
            by_cases c69 : t415 = true
            ·subst c69
             have H1 : (if t417 = true then (if t414 > x24_13 then (laws_FnShifts.j4 kj59 t377 t378 t379 t383 t386 t390 t391 t400 true) else (if t416 < t406 then (laws_FnShifts.j4 kj59 t377 t378 t379 t383 t386 t390 t391 t400 true) else (laws_FnShifts.j4 kj59 t377 t378 t379 t383 t386 t390 t391 t400 (decide (t414 < (wrap64 (x24_13 - (t391.length : Int)))))))) else (laws_FnShifts.j4 kj59 t377 t378 t379 t383 t386 t390 t391 t400 true)) = some r := by rw [if_pos rfl] at H; exact H
             clear H
             have H := H1
             clear H1
             by_cases c70 : t417 = true
             ·subst c70
              have H1 : (if t414 > x24_13 then (laws_FnShifts.j4 kj59 t377 t378 t379 t383 t386 t390 t391 t400 true) else (if t416 < t406 then (laws_FnShifts.j4 kj59 t377 t378 t379 t383 t386 t390 t391 t400 true) else (laws_FnShifts.j4 kj59 t377 t378 t379 t383 t386 t390 t391 t400 (decide (t414 < (wrap64 (x24_13 - (t391.length : Int)))))))) = some r := by rw [if_pos rfl] at H; exact H
              clear H
              have H := H1
              clear H1
              by_cases c71 : t414 > x24_13
              ·rw [if_pos c71] at H
               have c71b0 : decide (x24_13 < t414) = true := decide_eq_true c71
               clear c71
               (first | rw [c71b0] | (simp only [i64_w, i32_w]; rw [c71b0]) | skip)
               have H' := Aside0.mk H
               clear H
               go_wp2
               go_meet
               case rel => exact ⟨_, (true), (by first | rfl | (simp; done) | (simp [*]; done)), H', ⟨by have := HJ2.out; have := HJ13.out; have := HJ25.out; have := HJ59.out; first | omega | exact Nat.le_refl _⟩, ⟨rRx8 HO_5.out⟩, ⟨rRx8 HO_10.out⟩, ⟨by exact rRx8 (Kd.R_mono HO_12.out (fun _ hk => hk.2))⟩, ⟨rRx8 HO_13.out⟩, ⟨by exact rRx8 (Kd.R_mono HO_16.out (fun _ hk => hk.1))⟩, ⟨be0x8 HB.out⟩⟩
              ·rw [if_neg c71] at H
               have c71b0 : decide (x24_13 < t414) = false := decide_eq_false c71
               clear c71
               (first | rw [c71b0] | (simp only [i64_w, i32_w]; rw [c71b0]) | skip)
               by_cases c72 : t416 < t406
               ·rw [if_pos c72] at H
                have c72b0 : decide (t416 < t406) = true := decide_eq_true c72
                clear c72
                have H' := Aside0.mk H
                clear H
                go_wp2
                go_meet
                case rel => exact ⟨_, (true), (by first | rfl | (simp; done) | (simp [*]; done)), H', ⟨by have := HJ2.out; have := HJ13.out; have := HJ25.out; have := HJ59.out; first | omega | exact Nat.le_refl _⟩, ⟨rRx8 HO_5.out⟩, ⟨rRx8 HO_10.out⟩, ⟨by exact rRx8 (Kd.R_mono HO_12.out (fun _ hk => hk.2))⟩, ⟨rRx8 HO_13.out⟩, ⟨by exact rRx8 (Kd.R_mono HO_16.out (fun _ hk => hk.1))⟩, ⟨be0x8 HB.out⟩⟩
               ·rw [if_neg c72] at H
                have c72b0 : decide (t416 < t406) = false := decide_eq_false c72
                clear c72
                have H' := Aside0.mk H
                clear H
                go_wp2
                go_meet
                case rel => exact ⟨_, (decide (t414 < (wrap64 (x24_13 - (t391.length : Int))))), (by first | rfl | (simp; done) | (simp [*]; done)), H', ⟨by have := HJ2.out; have := HJ13.out; have := HJ25.out; have := HJ59.out; first | omega | exact Nat.le_refl _⟩, ⟨rRx8 HO_5.out⟩, ⟨rRx8 HO_10.out⟩, ⟨by exact rRx8 (Kd.R_mono HO_12.out (fun _ hk => hk.2))⟩, ⟨rRx8 HO_13.out⟩, ⟨by exact rRx8 (Kd.R_mono HO_16.out (fun _ hk => hk.1))⟩, ⟨be0x8 HB.out⟩⟩
             ·replace c70 := Bool.eq_false_iff.mpr c70
              subst c70
              have H1 : (laws_FnShifts.j4 kj59 t377 t378 t379 t383 t386 t390 t391 t400 true) = some r := by rw [if_neg (show ¬ (false = true) by decide)] at H; exact H
              clear H
              have H := H1
              clear H1
              have H' := Aside0.mk H
              clear H
              go_wp2
              go_meet
              case rel => exact ⟨_, (true), (by first | rfl | (simp; done) | (simp [*]; done)), H', ⟨by have := HJ2.out; have := HJ13.out; have := HJ25.out; have := HJ59.out; first | omega | exact Nat.le_refl _⟩, ⟨rRx8 HO_5.out⟩, ⟨rRx8 HO_10.out⟩, ⟨by exact rRx8 (Kd.R_mono HO_12.out (fun _ hk => hk.2))⟩, ⟨rRx8 HO_13.out⟩, ⟨by exact rRx8 (Kd.R_mono HO_16.out (fun _ hk => hk.1))⟩, ⟨be0x8 HB.out⟩⟩
            ·replace c69 := Bool.eq_false_iff.mpr c69
             subst c69
             have H1 : (laws_FnShifts.j4 kj59 t377 t378 t379 t383 t386 t390 t391 t400 true) = some r := by rw [if_neg (show ¬ (false = true) by decide)] at H; exact H
             clear H
             have H := H1
             clear H1
             have H' := Aside0.mk H
             clear H
             go_wp2
             go_meet
             case rel => exact ⟨_, (true), (by first | rfl | (simp; done) | (simp [*]; done)), H', ⟨by have := HJ2.out; have := HJ13.out; have := HJ25.out; have := HJ59.out; first | omega | exact Nat.le_refl _⟩, ⟨rRx8 HO_5.out⟩, ⟨rRx8 HO_10.out⟩, ⟨by exact rRx8 (Kd.R_mono HO_12.out (fun _ hk => hk.2))⟩, ⟨rRx8 HO_13.out⟩, ⟨by exact rRx8 (Kd.R_mono HO_16.out (fun _ hk => hk.1))⟩, ⟨be0x8 HB.out⟩⟩
           case rest =>
            clear HC66
            try clear c63; try clear c69; try clear c70; try clear c71; try clear c71b0; try clear c72; try clear c72b0
            obtain ⟨kq, x178_65, rfl, HA, HJ65, HO_5, HO_10, HO_12, HO_13, HO_16, HB⟩ := hcut
            cases kq with
            | zero => exact absurd HA.out (by simp [laws_FnShifts.j4])
            | succ kj65 =>
             have H := HA.out
             clear HA
             simp only [laws_FnShifts.j4] at H
             have HC73 := Aside0.mk H
             clear H
             go_upto_if 178 with (fail)
             go_cut [] (fun wc => ∃ (kq : Nat), Aside0 (laws_FnShifts.j5 kq t377 t378 t379 t383 t386 t390 t391 t400 = some r) ∧ Aside0 (kq ≤ kj65) ∧ Aside0 (Kd.R k24 24 wc w.heap.size (fun _ => True) (.slice Ao16 t377.length co16) t377) ∧ Aside0 (Kd.R (Kd.int .i64) 3 wc w.heap.size (fun k_ => some k_ ≠ ((.slice Ao21 t391.length co21) : Value).ownBlock) v388 t386) ∧ Aside0 (Kd.R Kd.bool 4 wc w.heap.size (fun k_ => some k_ ≠ (v402 : Value).ownBlock) (.slice Ao20 t390.length co20) t390) ∧ Aside0 (Kd.R (Kd.int .i64) 3 wc w.heap.size (fun k_ => some k_ ≠ (v388 : Value).ownBlock) (.slice Ao21 t391.length co21) t391) ∧ Aside0 (Kd.R Kd.bool 4 wc w.heap.size (fun k_ => some k_ ≠ ((.slice Ao20 t390.length co20) : Value).ownBlock) v402 t400) ∧ Aside0 (Below w.heap.size w wc))
             case first =>
              as_aux_lemma =>
              have H := HC73.out
              clear HC73
              by_cases c74 : x178_65 = true
              ·subst c74
               have H1 : (some false) = some r := by rw [if_pos rfl] at H; exact H
               clear H
               have H := H1
               clear H1
               obtain rfl := Option.some.inj H
               go_wp2
               go_ret
               exact ⟨by first | rfl | (simp [errW_none, errW_some] <;> rfl) | (simp [*, errW_none, errW_some] <;> rfl), be0x8 HB.out⟩
              ·replace c74 := Bool.eq_false_iff.mpr c74
               subst c74
               have H1 : (laws_FnShifts.j5 kj65 t377 t378 t379 t383 t386 t390 t391 t400) = some r := by rw [if_neg (show ¬ (false = true) by decide)] at H; exact H
               clear H
               have H := H1
               clear H1
               have H' := Aside0.mk H
               clear H
               go_wp2
               go_meet
               case rel => exact ⟨_, H', ⟨by have := HJ2.out; have := HJ13.out; have := HJ25.out; have := HJ59.out; have := HJ65.out; first | omega | exact Nat.le_refl _⟩, ⟨rRx8 HO_5.out⟩, ⟨rRx8 HO_10.out⟩, ⟨rRx8 HO_12.out⟩, ⟨rRx8 HO_13.out⟩, ⟨rRx8 HO_16.out⟩, ⟨be0x8 HB.out⟩⟩
             case rest =>
              clear HC73
              try clear c74
              obtain ⟨kq, HA, HJ72, HO_5, HO_10, HO_12, HO_13, HO_16, HB⟩ := hcut
              cases kq with
              | zero => exact absurd HA.out (by simp [laws_FnShifts.j5])
              | succ kj72 =>
               have H := HA.out
               clear HA
               simp only [laws_FnShifts.j5] at H
               have H' := Aside0.mk H
               clear H
               obtain ⟨Ao75, co75, eo75⟩ := Kd.R_slice HO_16.out
               subst eo75
               go_wp2
               go_loopg [181] kj72 (fun kq v181 w' => ∃ (x181_7 : Int), v181 = .int .i64 x181_7 ∧ Aside0 (laws_FnShifts.l0 kq t377 t378 t379 t383 t386 t390 t391 t400 (t400.length : Int) x181_7 = some r) ∧ Aside0 (kq ≤ kj72) ∧ Aside0 (Kd.R k24 24 w' w.heap.size (fun _ => True) (.slice Ao16 t377.length co16) t377) ∧ Aside0 (Kd.R (Kd.int .i64) 3 w' w.heap.size (fun k_ => some k_ ≠ ((.slice Ao21 t391.length co21) : Value).ownBlock) v388 t386) ∧ Aside0 (Kd.R Kd.bool 4 w' w.heap.size (fun k_ => some k_ ≠ ((.slice Ao75 t400.length co75) : Value).ownBlock) (.slice Ao20 t390.length co20) t390) ∧ Aside0 (Kd.R (Kd.int .i64) 3 w' w.heap.size (fun k_ => some k_ ≠ (v388 : Value).ownBlock) (.slice Ao21 t391.length co21) t391) ∧ Aside0 (Kd.R Kd.bool 4 w' w.heap.size (fun k_ => some k_ ≠ ((.slice Ao20 t390.length co20) : Value).ownBlock) (.slice Ao75 t400.length co75) t400) ∧ Aside0 (Below w.heap.size w w'))
               case atStart => exact ⟨(0), (by first | rfl | (simp; done) | (simp [*]; done)), H', ⟨Nat.le_refl _⟩, ⟨rRx8 HO_5.out⟩, ⟨rRx8 HO_10.out⟩, ⟨rRx8 HO_12.out⟩, ⟨rRx8 HO_13.out⟩, ⟨rRx8 HO_16.out⟩, ⟨be0x8 HB.out⟩⟩
               case round =>
                as_aux_lemma =>
                clear H'
                obtain ⟨x181_7, rfl, HA, HK7, HO_5, HO_10, HO_12, HO_13, HO_179, HB⟩ := hrel
                cases gk with
                | zero => exact absurd HA.out (by simp [laws_FnShifts.l0])
                | succ k7 =>
                 have H := HA.out
                 clear HA
                 simp only [laws_FnShifts.l0] at H
                 by_cases c76 : x181_7 < (t400.length : Int)
                 ·rw [if_pos c76] at H
                  have c76b0 : decide (x181_7 < (t400.length : Int)) = true := decide_eq_true c76
                  clear c76
                  by_cases c77 : 0 ≤ x181_7
                  ·rw [if_pos c77] at H
                   have c77b0 : decide (0 ≤ x181_7) = true := decide_eq_true c77
                   clear c77
                   by_cases c78 : x181_7 < (t400.length : Int)
                   ·rw [if_pos c78] at H
                    have c78b0 : decide (x181_7 < (t400.length : Int)) = true := decide_eq_true c78
                    clear c78
                    by_cases c79 : x181_7 < (t390.length : Int)
                    ·rw [if_pos c79] at H
                     have c79b0 : decide (x181_7 < (t390.length : Int)) = true := decide_eq_true c79
                     clear c79
                     obtain ⟨bq80, hbq80⟩ : ∃ b_ : Bool, b_ = (rdOf false t390 x181_7) := ⟨_, rfl⟩
                     replace H : (if bq80 = true then ((laws_qHas.f k7 t391 x181_7).bind fun t420 => (if ((rdOf false t400 x181_7) != (!t420)) = true then (some false) else (laws_FnShifts.l0 k7 t377 t378 t379 t383 t386 t390 t391 t400 (t400.length : Int) (wrap64 (x181_7 + 1))))) else (if ((rdOf false t400 x181_7) != false) = true then (some false) else (laws_FnShifts.l0 k7 t377 t378 t379 t383 t386 t390 t391 t400 (t400.length : Int) (wrap64 (x181_7 + 1))))) = some r := by rw [← hbq80] at H; exact H
                     have Nbq80 := Aside0.mk hbq80
                     clear hbq80
                     by_cases c81 : bq80 = true
                     ·subst c81
                      have H1 : ((laws_qHas.f k7 t391 x181_7).bind fun t420 => (if ((rdOf false t400 x181_7) != (!t420)) = true then (some false) else (laws_FnShifts.l0 k7 t377 t378 t379 t383 t386 t390 t391 t400 (t400.length : Int) (wrap64 (x181_7 + 1))))) = some r := by rw [if_pos rfl] at H; exact H
                      clear H
                      have H := H1
                      clear H1
                      replace H := Option.bind_eq_some_iff.mp H
                      obtain ⟨t420, A820, H⟩ := H
                      have A82 := Aside0.mk A820
                      clear A820
                      by_cases c83 : ((rdOf false t400 x181_7) != (!t420)) = true
                      ·rw [if_pos c83] at H
                       have c83b0 : ((rdOf false t400 x181_7) != (!t420)) = true := c83
                       (try (have c83b1 : decide ((rdOf false t400 x181_7) = (!t420)) = false := by simpa using c83))
                       (try (have c83b2 : ((rdOf false t400 x181_7) == (!t420)) = false := by simpa using c83))
                       (try (have c83b3 : ¬ ((rdOf false t400 x181_7) = (!t420)) := by simpa using c83))
                       clear c83
                       obtain rfl := Option.some.inj H
                       have p418 : 0 ≤ (x181_7 : Int) := of_decide_eq_true (by first | (with_reducible assumption) | assumption)
                       have q418 : x181_7 < (t400.length : Int) := of_decide_eq_true (by first | (with_reducible assumption) | assumption)
                       obtain ⟨ad418, e418, hx418_0⟩ := Kd.at_bool (Kd.R_reads' HO_179.out).2.2 x181_7 p418 q418
                       (try rw [← Nbq80.out] at hx418_0)
                       cases e418
                       replace p418 := eq_true p418
                       replace q418 := eq_true q418
                       have p419 : 0 ≤ (x181_7 : Int) := of_decide_eq_true (by first | (with_reducible assumption) | assumption)
                       have q419 : x181_7 < (t390.length : Int) := of_decide_eq_true (by first | (with_reducible assumption) | assumption)
                       obtain ⟨ad419, e419, hx419_0⟩ := Kd.at_bool (Kd.R_reads' HO_12.out).2.2 x181_7 p419 q419
                       (try rw [← Nbq80.out] at hx419_0)
                       cases e419
                       replace p419 := eq_true p419
                       replace q419 := eq_true q419
                       go_wp2_with (first | (go_at_call 32; (with_reducible refine (laws_qHas.calls k7 _ _ t391 x181_7 t420 _ ?side1 ?side2 A82.out).mono ?_); (case side1 => exact cRx8 HO_13.out); (case side2 => exact (Kd.R_reads' HO_13.out).2.1); rintro e w' ⟨rfl, ⟨nd, rfl⟩⟩))
                       go_ret
                       exact ⟨by first | rfl | (simp [errW_none, errW_some] <;> rfl) | (simp [*, errW_none, errW_some] <;> rfl), be0x8 HB.out⟩
                      ·rw [if_neg c83] at H
                       have c83e : (rdOf false t400 x181_7) = (!t420) := by have z := c83; revert z; generalize (rdOf false t400 x181_7) = a; generalize t420 = b; revert a b; decide
                       clear c83
                       have H' := Aside0.mk H
                       clear H
                       have p418 : 0 ≤ (x181_7 : Int) := of_decide_eq_true (by first | (with_reducible assumption) | assumption)
                       have q418 : x181_7 < (t400.length : Int) := of_decide_eq_true (by first | (with_reducible assumption) | assumption)
                       obtain ⟨ad418, e418, hx418_0⟩ := Kd.at_bool (Kd.R_reads' HO_179.out).2.2 x181_7 p418 q418
                       (try rw [← Nbq80.out] at hx418_0)
                       cases e418
                       replace p418 := eq_true p418
                       replace q418 := eq_true q418
                       have p419 : 0 ≤ (x181_7 : Int) := of_decide_eq_true (by first | (with_reducible assumption) | assumption)
                       have q419 : x181_7 < (t390.length : Int) := of_decide_eq_true (by first | (with_reducible assumption) | assumption)
                       obtain ⟨ad419, e419, hx419_0⟩ := Kd.at_bool (Kd.R_reads' HO_12.out).2.2 x181_7 p419 q419
                       (try rw [← Nbq80.out] at hx419_0)
                       cases e419
                       replace p419 := eq_true p419
                       replace q419 := eq_true q419
                       go_wp2_with (first | (go_at_call 32; (with_reducible refine (laws_qHas.calls k7 _ _ t391 x181_7 t420 _ ?side1 ?side2 A82.out).mono ?_); (case side1 => exact cRx8 HO_13.out); (case side2 => exact (Kd.R_reads' HO_13.out).2.1); rintro e w' ⟨rfl, ⟨nd, rfl⟩⟩))
                       go_roundg k7
                       case measure => have := HJ2.out; have := HJ13.out; have := HJ25.out; have := HJ59.out; have := HJ65.out; have := HJ72.out; have := HK7.out; omega
                       case rel => exact ⟨(wrap64 (x181_7 + 1)), (by first | rfl | (simp; done) | (simp [*]; done)), H', ⟨by have := HJ2.out; have := HJ13.out; have := HJ25.out; have := HJ59.out; have := HJ65.out; have := HJ72.out; have := HK7.out; omega⟩, ⟨rRx8 HO_5.out⟩, ⟨rRx8 HO_10.out⟩, ⟨rRx8 HO_12.out⟩, ⟨rRx8 HO_13.out⟩, ⟨rRx8 HO_179.out⟩, ⟨be0x8 HB.out⟩⟩
                     ·replace c81 := Bool.eq_false_iff.mpr c81
                      subst c81
                      have H1 : (if ((rdOf false t400 x181_7) != false) = true then (some false) else (laws_FnShifts.l0 k7 t377 t378 t379 t383 t386 t390 t391 t400 (t400.length : Int) (wrap64 (x181_7 + 1)))) = some r := by rw [if_neg (show ¬ (false = true) by decide)] at H; exact H
                      clear H
                      have H := H1
                      clear H1
                      by_cases c84 : ((rdOf false t400 x181_7) != false) = true
                      ·rw [if_pos c84] at H
                       have c84b0 : ((rdOf false t400 x181_7) != false) = true := c84
                       (try (have c84b1 : decide ((rdOf false t400 x181_7) = false) = false := by simpa using c84))
                       (try (have c84b2 : ((rdOf false t400 x181_7) == false) = false := by simpa using c84))
                       (try (have c84b3 : ¬ ((rdOf false t400 x181_7) = false) := by simpa using c84))
                       clear c84
                       obtain rfl := Option.some.inj H
                       have p418 : 0 ≤ (x181_7 : Int) := of_decide_eq_true (by first | (with_reducible assumption) | assumption)
                       have q418 : x181_7 < (t400.length : Int) := of_decide_eq_true (by first | (with_reducible assumption) | assumption)
                       obtain ⟨ad418, e418, hx418_0⟩ := Kd.at_bool (Kd.R_reads' HO_179.out).2.2 x181_7 p418 q418
                       (try rw [← Nbq80.out] at hx418_0)
                       cases e418
                       replace p418 := eq_true p418
                       replace q418 := eq_true q418
                       have p419 : 0 ≤ (x181_7 : Int) := of_decide_eq_true (by first | (with_reducible assumption) | assumption)
                       have q419 : x181_7 < (t390.length : Int) := of_decide_eq_true (by first | (with_reducible assumption) | assumption)
                       obtain ⟨ad419, e419, hx419_0⟩ := Kd.at_bool (Kd.R_reads' HO_12.out).2.2 x181_7 p419 q419
                       (try rw [← Nbq80.out] at hx419_0)
                       cases e419
                       replace p419 := eq_true p419
                       replace q419 := eq_true q419
                       go_wp2
                       go_ret
                       exact ⟨by first | rfl | (simp [errW_none, errW_some] <;> rfl) | (simp [*, errW_none, errW_some] <;> rfl), be0x8 HB.out⟩
                      ·rw [if_neg c84] at H
                       have c84b0 : ((rdOf false t400 x181_7) != false) = false := by simpa using c84
                       (try (have c84b1 : decide ((rdOf false t400 x181_7) = false) = true := by simpa using c84))
                       (try (have c84b2 : ((rdOf false t400 x181_7) == false) = true := by simpa using c84))
                       clear c84
                       have H' := Aside0.mk H
                       clear H
                       have p418 : 0 ≤ (x181_7 : Int) := of_decide_eq_true (by first | (with_reducible assumption) | assumption)
                       have q418 : x181_7 < (t400.length : Int) := of_decide_eq_true (by first | (with_reducible assumption) | assumption)
                       obtain ⟨ad418, e418, hx418_0⟩ := Kd.at_bool (Kd.R_reads' HO_179.out).2.2 x181_7 p418 q418
                       (try rw [← Nbq80.out] at hx418_0)
                       cases e418
                       replace p418 := eq_true p418
                       replace q418 := eq_true q418
                       have p419 : 0 ≤ (x181_7 : Int) := of_decide_eq_true (by first | (with_reducible assumption) | assumption)
                       have q419 : x181_7 < (t390.length : Int) := of_decide_eq_true (by first | (with_reducible assumption) | assumption)
                       obtain ⟨ad419, e419, hx419_0⟩ := Kd.at_bool (Kd.R_reads' HO_12.out).2.2 x181_7 p419 q419
                       (try rw [← Nbq80.out] at hx419_0)
                       cases e419
                       replace p419 := eq_true p419
                       replace q419 := eq_true q419
                       go_wp2
                       go_roundg k7
                       case measure => have := HJ2.out; have := HJ13.out; have := HJ25.out; have := HJ59.out; have := HJ65.out; have := HJ72.out; have := HK7.out; omega
                       case rel => exact ⟨(wrap64 (x181_7 + 1)), (by first | rfl | (simp; done) | (simp [*]; done)), H', ⟨by have := HJ2.out; have := HJ13.out; have := HJ25.out; have := HJ59.out; have := HJ65.out; have := HJ72.out; have := HK7.out; omega⟩, ⟨rRx8 HO_5.out⟩, ⟨rRx8 HO_10.out⟩, ⟨rRx8 HO_12.out⟩, ⟨rRx8 HO_13.out⟩, ⟨rRx8 HO_179.out⟩, ⟨be0x8 HB.out⟩⟩
                    ·rw [if_neg c79] at H
                     exact absurd H (by simp)
                   ·rw [if_neg c78] at H
                    exact absurd H (by simp)
                  ·rw [if_neg c77] at H
                   exact absurd H (by simp)
                 ·rw [if_neg c76] at H
                  have c76b0 : decide (x181_7 < (t400.length : Int)) = false := decide_eq_false c76
                  clear c76
                  have H' := Aside0.mk H
                  clear H
                  go_wp2
                  go_meet
                  case rel => exact ⟨_, H', ⟨by have := HJ2.out; have := HJ13.out; have := HJ25.out; have := HJ59.out; have := HJ65.out; have := HJ72.out; have := HK7.out; first | omega | exact Nat.le_refl _⟩, ⟨rRx8 HO_5.out⟩, ⟨by exact rRx8 (Kd.R_mono HO_10.out (fun _ hk => trivial))⟩, ⟨be0x8 HB.out⟩⟩
          ·replace c63 := Bool.eq_false_iff.mpr c63
           subst c63
           have H1 : (laws_FnShifts.j7 kj59 t377 t378 t379 t383 t386) = some r := by rw [if_neg (show ¬ (false = true) by decide)] at H; exact H
           clear H
           have H := H1
           clear H1
           have H' := Aside0.mk H
           clear H
           go_wp2
           go_meet
           case rel => exact ⟨_, H', ⟨by have := HJ2.out; have := HJ13.out; have := HJ25.out; have := HJ59.out; first | omega | exact Nat.le_refl _⟩, ⟨rRx8 HO_5.out⟩, ⟨by exact rRx8 (Kd.R_mono HO_10.out (fun _ hk => trivial))⟩, ⟨be0x8 HB.out⟩⟩
         case rest =>
          clear HC62
          try clear c63; try clear c69; try clear c70; try clear c71; try clear c71b0; try clear c72; try clear c72b0; try clear c74; try clear c76; try clear c76b0; try clear c77; try clear c77b0; try clear c78; try clear c78b0; try clear c79; try clear c79b0; try clear c81; try clear c83; try clear c83b0; try clear c83b1; try clear c83b2; try clear c84; try clear c84b0; try clear c84b1; try clear c84b2; try clear hx418_0; try clear hx419_0; try clear p418; try clear p419; try clear q418; try clear q419
          obtain ⟨kq, HA, HJ61, HO_5, HO_10, HB⟩ := hcut
          cases kq with
          | zero => exact absurd HA.out (by simp [laws_FnShifts.j7])
          | succ kj61 =>
           have H := HA.out
           clear HA
           simp only [laws_FnShifts.j7] at H
           have HC85 := Aside0.mk H
           clear H
           go_upto_if 200 with (fail)
           go_cut [] (fun wc => ∃ (kq : Nat), Aside0 (laws_FnShifts.j8 kq t377 t378 t379 t386 = some r) ∧ Aside0 (kq ≤ kj61) ∧ Aside0 (Kd.R k24 24 wc w.heap.size (fun _ => True) (.slice Ao16 t377.length co16) t377) ∧ Aside0 (Kd.R (Kd.int .i64) 3 wc w.heap.size (fun _ => True) v388 t386) ∧ Aside0 (Below w.heap.size w wc))
           case first =>
            as_aux_lemma =>
            have H := HC85.out
            clear HC85
            by_cases c86 : t383 = true
            ·subst c86
             have H1 : (laws_FnShifts.j8 kj61 t377 t378 t379 t386) = some r := by rw [if_pos rfl] at H; exact H
             clear H
             have H := H1
             clear H1
             have H' := Aside0.mk H
             clear H
             go_wp2
             go_meet
             case rel => exact ⟨_, H', ⟨by have := HJ2.out; have := HJ13.out; have := HJ25.out; have := HJ59.out; have := HJ61.out; first | omega | exact Nat.le_refl _⟩, ⟨rRx8 HO_5.out⟩, ⟨rRx8 HO_10.out⟩, ⟨be0x8 HB.out⟩⟩
            ·replace c86 := Bool.eq_false_iff.mpr c86
             subst c86
             have H1 : (some true) = some r := by rw [if_neg (show ¬ (false = true) by decide)] at H; exact H
             clear H
             have H := H1
             clear H1
             obtain rfl := Option.some.inj H
             go_wp2
             go_ret
             exact ⟨by first | rfl | (simp [errW_none, errW_some] <;> rfl) | (simp [*, errW_none, errW_some] <;> rfl), be0x8 HB.out⟩
           case rest =>
            clear HC85
            try clear c86
            obtain ⟨kq, HA, HJ84, HO_5, HO_10, HB⟩ := hcut
            cases kq with
            | zero => exact absurd HA.out (by simp [laws_FnShifts.j8])
            | succ kj84 =>
             have H := HA.out
             clear HA
             simp only [laws_FnShifts.j8] at H
             have H' := Aside0.mk H
             clear H
             go_wp2
             go_loopg [32, 203] kj84 (fun kq v32 v203 w' => ∃ (x32_7 : Int) (x203_7 : Int), v32 = .int .i64 x32_7 ∧ v203 = .int .i64 x203_7 ∧ Aside0 (laws_FnShifts.l1 kq t378 t379 t386 x32_7 t377 (t377.length : Int) x203_7 = some r) ∧ Aside0 (kq ≤ kj84) ∧ Aside0 (Kd.R (Kd.int .i64) 3 w' w.heap.size (fun _ => True) v388 t386) ∧ Aside0 (Kd.R k24 24 w' w.heap.size (fun _ => True) (.slice Ao16 t377.length co16) t377) ∧ Aside0 (Below w.heap.size w w'))
             case atStart => exact ⟨(0), (0), (by first | rfl | (simp; done) | (simp [*]; done)), (by first | rfl | (simp; done) | (simp [*]; done)), H', ⟨Nat.le_refl _⟩, ⟨rRx8 HO_10.out⟩, ⟨rRx8 HO_5.out⟩, ⟨be0x8 HB.out⟩⟩
             case round =>
              as_aux_lemma =>
              clear H'
              obtain ⟨x32_7, x203_7, rfl, rfl, HA, HK7, HO_10, HO_201, HB⟩ := hrel
              cases gk with
              | zero => exact absurd HA.out (by simp [laws_FnShifts.l1])
              | succ k7 =>
               have H := HA.out
               clear HA
               simp only [laws_FnShifts.l1] at H
               have HC87 := Aside0.mk H
               clear H
               go_upto_if 204 with (fail)
               go_cut [] (fun wc => ∃ (kq : Nat), Aside0 (laws_FnShifts.j10 kq t378 t379 t386 x32_7 t377 (t377.length : Int) x203_7 = some r) ∧ Aside0 (kq ≤ k7) ∧ Aside0 (Kd.R (Kd.int .i64) 3 wc w.heap.size (fun _ => True) v388 t386) ∧ Aside0 (Kd.R k24 24 wc w.heap.size (fun _ => True) (.slice Ao16 t377.length co16) t377) ∧ Aside0 (Below w.heap.size w wc))
               case first =>
                as_aux_lemma =>
                have H := HC87.out
                clear HC87
                by_cases c88 : x203_7 < (t377.length : Int)
                ·rw [if_pos c88] at H
                 have c88b0 : decide (x203_7 < (t377.length : Int)) = true := decide_eq_true c88
                 clear c88
                 (first | rw [c88b0] | (simp only [i64_w, i32_w]; rw [c88b0]) | skip)
                 have H' := Aside0.mk H
                 clear H
                 go_wp2
                 go_meet
                 case rel => exact ⟨_, H', ⟨by have := HJ2.out; have := HJ13.out; have := HJ25.out; have := HJ59.out; have := HJ61.out; have := HJ84.out; have := HK7.out; first | omega | exact Nat.le_refl _⟩, ⟨rRx8 HO_10.out⟩, ⟨rRx8 HO_201.out⟩, ⟨be0x8 HB.out⟩⟩
                ·rw [if_neg c88] at H
                 have c88b0 : decide (x203_7 < (t377.length : Int)) = false := decide_eq_false c88
                 clear c88
                 (first | rw [c88b0] | (simp only [i64_w, i32_w]; rw [c88b0]) | skip)
                 replace H := Option.bind_eq_some_iff.mp H
                 obtain ⟨t421, A890, H⟩ := H
                 have A89 := Aside0.mk A890
                 clear A890
                 by_cases c90 : x32_7 = t421
                 ·rw [if_pos c90] at H
                  have c90b0 : (x32_7 == t421) = true := beq_iff_eq.mpr c90
                  have c90b1 : (x32_7 != t421) = false := bne_eq_false_iff_eq.mpr c90
                  clear c90
                  obtain rfl := Option.some.inj H
                  obtain ⟨Ao91, co91, eo91⟩ := Kd.R_slice HO_10.out
                  subst eo91
                  go_wp2_with (first | ((with_reducible refine gate_callee (f := 33) rfl ?_); refine goesL_ (some 251) rfl rfl Try.func33 (by kernel_rfl) rfl #[.slice Ao91 t386.length co91] rfl mpx8 ?_; (with_reducible refine (laws_qSum.calls k7 _ _ t386 t421 _ ?side1 ?side2 A89.out).mono ?_); (case side1 => exact cRx8 HO_10.out); (case side2 => exact (Kd.R_reads' HO_10.out).2.1); rintro e w' ⟨rfl, ⟨nd, rfl⟩⟩; refine ⟨_, rfl, ?_⟩))
                  go_ret
                  exact ⟨by first | rfl | (simp [errW_none, errW_some] <;> rfl) | (simp [*, errW_none, errW_some] <;> rfl), be0x8 HB.out⟩
                 ·rw [if_neg c90] at H
                  have c90b0 : (x32_7 == t421) = false := beq_eq_false_iff_ne.mpr c90
                  have c90b1 : (x32_7 != t421) = true := bne_iff_ne.mpr c90
                  obtain rfl := Option.some.inj H
                  obtain ⟨Ao92, co92, eo92⟩ := Kd.R_slice HO_10.out
                  subst eo92
                  go_wp2_with (first | ((with_reducible refine gate_callee (f := 33) rfl ?_); refine goesL_ (some 251) rfl rfl Try.func33 (by kernel_rfl) rfl #[.slice Ao92 t386.length co92] rfl mpx8 ?_; (with_reducible refine (laws_qSum.calls k7 _ _ t386 t421 _ ?side1 ?side2 A89.out).mono ?_); (case side1 => exact cRx8 HO_10.out); (case side2 => exact (Kd.R_reads' HO_10.out).2.1); rintro e w' ⟨rfl, ⟨nd, rfl⟩⟩; refine ⟨_, rfl, ?_⟩))
                  go_ret
                  exact ⟨by first | rfl | (simp [errW_none, errW_some] <;> rfl) | (simp [*, errW_none, errW_some] <;> rfl), be0x8 HB.out⟩
               case rest =>
                clear HC87
                try clear c88; try clear c88b0; try clear c90; try clear c90b0; try clear c90b1
                obtain ⟨kq, HA, HJ86, HO_10, HO_201, HB⟩ := hcut
                cases kq with
                | zero => exact absurd HA.out (by simp [laws_FnShifts.j10])
                | succ kj86 =>
                 have H := HA.out
                 clear HA
                 simp only [laws_FnShifts.j10] at H
                 by_cases c93 : 0 ≤ x203_7
                 ·rw [if_pos c93] at H
                  have c93b0 : decide (0 ≤ x203_7) = true := decide_eq_true c93
                  clear c93
                  by_cases c94 : x203_7 < (t377.length : Int)
                  ·rw [if_pos c94] at H
                   have c94b0 : decide (x203_7 < (t377.length : Int)) = true := decide_eq_true c94
                   clear c94
                   replace H := Option.bind_eq_some_iff.mp H
                   obtain ⟨⟨t424, t427⟩, A950, H⟩ := H
                   (try dsimp only at H)
                   have A95 := Aside0.mk A950
                   clear A950
                   replace H := Option.bind_eq_some_iff.mp H
                   obtain ⟨⟨t428, t431⟩, A960, H⟩ := H
                   (try dsimp only at H)
                   have A96 := Aside0.mk A960
                   clear A960
                   have HC97 := Aside0.mk H
                   clear H
                   have p422 : 0 ≤ (x203_7 : Int) := of_decide_eq_true (by first | (with_reducible assumption) | assumption)
                   have q422 : x203_7 < (t377.length : Int) := of_decide_eq_true (by first | (with_reducible assumption) | assumption)
                   obtain ⟨ad422, e422, hx422_0, hx422_1, hx422_2⟩ := at_T24 (Kd.R_reads' HO_201.out).2.2 x203_7 p422 q422
                   cases e422
                   replace p422 := eq_true p422
                   replace q422 := eq_true q422
                   go_upto_region 34 with (first | ((with_reducible refine gate_dst (N := 34) rfl ?_); (try (refine gate_guard (by rfl) ?_; dsimp only)); refine box_event ?hg (N := 34) ?hd (cs := #[.int .i64 0, .int .i64 0, .bool false]) (t := 24) ?hr ?_; (case hd => rfl); (case hg => rfl); (case hr => first | (go_simp; done) | (go_simp; rfl)); intro gb423 hg w98 hbox hb; replace HO_10 := Aside0.mk (Kd.R_below (rRx8 HO_10.out) hb); replace HO_201 := Aside0.mk (Kd.R_below (Kd.R_elderB (rRx8 HO_201.out) gb423 (Nat.le_of_eq hg.symm)) hb); have BK423 := Aside0.mk (hbox); have GW423 := Aside0.mk ((by rw [hg]; exact (below_size (be0x8 HB.out)) : w.heap.size ≤ gb423)); have GE423 := Aside0.mk ((by rw [hg]; exact (below_size (be0x8 HB.out)) : w.heap.size ≤ gb423)); replace HB := Aside0.mk (below_step (be0x8 HB.out) hb); clear hb hbox hg; obtain ⟨hcz99_0, hcz99_1, hcz99_2, hfz99_0, hfz99_1, hfz99_2⟩ := cf3x8 BK423.out) | ((with_reducible refine gate_callee (f := 6) rfl ?_); refine goesL_ (some 214) rfl rfl Try.func6 (by kernel_rfl) rfl #[.agg #[.int .i64 ((rd_T24 t377 x203_7).f0), .int .i64 ((rd_T24 t377 x203_7).f1), .bool ((rd_T24 t377 x203_7).f2)], .int .i64 (wrap64 (t378 + x203_7)), .int .i64 t379] rfl mpx8 ?_; (with_reducible refine (impl_StatesOf.calls kj86 ((rd_T24 t377 x203_7).f0) ((rd_T24 t377 x203_7).f1) ((rd_T24 t377 x203_7).f2) (wrap64 (t378 + x203_7)) t379 t424 t427 _ A95.out).mono ?_); rintro e w100 ⟨v425, rfl, ho0, hb⟩; refine ⟨_, rfl, ?_⟩; replace HO_10 := Aside0.mk (Kd.R_below (sR3x8 HO_10.out BK423.out) hb); replace HO_201 := Aside0.mk (Kd.R_below (by (with_reducible repeat (first | apply Kd.R_alloc | apply Kd.R_drewN | apply Kd.R_drew)); exact (Kd.R_mono (Kd.R_far (p := ⟨gb423, 2, none⟩) (Kd.R_far (p := ⟨gb423, 1, none⟩) (Kd.R_far (p := ⟨gb423, 0, none⟩) (Kd.R_mono HO_201.out (fun k_ hk => (⟨hk, hk.2⟩ : _ ∧ k_ ≠ gb423))) (fun _ hk => hk.2) (.int .i64 ((rd_T24 t377 x203_7).f0))) (fun _ hk => hk.2) (.int .i64 ((rd_T24 t377 x203_7).f1))) (fun _ hk => hk.2) (.bool ((rd_T24 t377 x203_7).f2))) (fun _ h_ => h_.1))) hb); have HO426 := Aside0.mk (Kd.R_lower ho0 (below_size (be1x8 HB.out GE423.out))); replace BK423 := Aside0.mk (blk_below (g := gb423) (o := .cells #[.int .i64 ((rd_T24 t377 x203_7).f0), .int .i64 ((rd_T24 t377 x203_7).f1), .bool ((rd_T24 t377 x203_7).f2)] 24 (0, 0)) (by (with_reducible repeat (first | refine blk_drewN ?_ _ | refine blk_drew ?_ | refine blk_alloc ?_ _)); refine blk_put (cs := #[.int .i64 ((rd_T24 t377 x203_7).f0), .int .i64 ((rd_T24 t377 x203_7).f1), .bool false]) ?_ 2 _ rfl; (with_reducible repeat (first | refine blk_drewN ?_ _ | refine blk_drew ?_ | refine blk_alloc ?_ _)); refine blk_put (cs := #[.int .i64 ((rd_T24 t377 x203_7).f0), .int .i64 0, .bool false]) ?_ 1 _ rfl; (with_reducible repeat (first | refine blk_drewN ?_ _ | refine blk_drew ?_ | refine blk_alloc ?_ _)); refine blk_put (cs := #[.int .i64 0, .int .i64 0, .bool false]) ?_ 0 _ rfl; (with_reducible repeat (first | refine blk_drewN ?_ _ | refine blk_drew ?_ | refine blk_alloc ?_ _)); exact BK423.out) hb); replace HB := Aside0.mk (below_step (be1x8 HB.out GE423.out) hb); (try clear hb); (try clear hb2); (try clear hk); (try clear hi); (try clear ho0); have hcz101_0 : w100.cell? ⟨gb423, 0, none⟩ = some (.int .i64 ((rd_T24 t377 x203_7).f0)) := (blk_cell BK423.out 0).trans rfl; have hcz101_1 : w100.cell? ⟨gb423, 1, none⟩ = some (.int .i64 ((rd_T24 t377 x203_7).f1)) := (blk_cell BK423.out 1).trans rfl; have hcz101_2 : w100.cell? ⟨gb423, 2, none⟩ = some (.bool ((rd_T24 t377 x203_7).f2)) := (blk_cell BK423.out 2).trans rfl; have hfz101_0 := blk_frozen BK423.out 0; have hfz101_1 := blk_frozen BK423.out 1; have hfz101_2 := blk_frozen BK423.out 2) | ((with_reducible refine gate_callee (f := 7) rfl ?_); refine goesL_ (some 223) rfl rfl Try.func7 (by kernel_rfl) rfl #[.agg #[.int .i64 ((rd_T24 t377 x203_7).f0), .int .i64 ((rd_T24 t377 x203_7).f1), .bool ((rd_T24 t377 x203_7).f2)], .int .i64 (wrap64 (t378 + x203_7)), .int .i64 t379] rfl mpx8 ?_; (with_reducible refine (spec_StatesOf.calls kj86 ((rd_T24 t377 x203_7).f0) ((rd_T24 t377 x203_7).f1) ((rd_T24 t377 x203_7).f2) (wrap64 (t378 + x203_7)) t379 t428 t431 _ A96.out).mono ?_); rintro e w102 ⟨v429, rfl, ho0, hb⟩; refine ⟨_, rfl, ?_⟩; replace HO_10 := Aside0.mk (Kd.R_below (rRx8 HO_10.out) hb); replace HO_201 := Aside0.mk (Kd.R_below (rRx8 HO_201.out) hb); have HO430 := Aside0.mk (Kd.R_lower (nwx8 ho0 (rRx8 HO426.out)) (below_size (be1x8 HB.out GE423.out))); replace HO426 := Aside0.mk (Kd.R_elder' (rRx8 HO426.out) (Kd.R_base ho0) hb); replace BK423 := Aside0.mk (blk_below (rBx8 BK423.out) hb); replace HB := Aside0.mk (below_step (be1x8 HB.out GE423.out) hb); (try clear hb); (try clear hb2); (try clear hk); (try clear hi); (try clear ho0)))
                   (try simp only [Act.put, List.setIfInBounds_toArray, List.set_cons_zero, List.set_cons_succ])
                   go_cut [237] (fun v237 wc => ∃ (kq : Nat) (x237_96 : Bool), v237 = .bool x237_96 ∧ Aside0 (laws_FnShifts.j11 kq t378 t379 t386 x32_7 t428 t377 (t377.length : Int) x203_7 x237_96 = some r) ∧ Aside0 (kq ≤ kj86) ∧ Aside0 (Kd.R (Kd.int .i64) 3 wc w.heap.size (fun _ => True) v388 t386) ∧ Aside0 (Kd.R Kd.bool 4 wc w.heap.size (fun _ => True) v429 t428) ∧ Aside0 (Kd.R k24 24 wc w.heap.size (fun k_ => k_ ≠ gb423) (.slice (some ad422) t377.length co16) t377) ∧ Aside0 (wc.heap[gb423]? = some (.cells #[.int .i64 ((rd_T24 t377 x203_7).f0), .int .i64 ((rd_T24 t377 x203_7).f1), .bool ((rd_T24 t377 x203_7).f2)] 24 (0, 0))) ∧ Aside0 (Below w.heap.size w wc))
                   case first =>
                    as_aux_lemma =>
                    have H := HC97.out
                    clear HC97
                    by_cases c103 : t427 = true
                    ·subst c103
                     have H1 : (if t431 = true then ((laws_qBools.f kj86 t424 t428).bind fun t432 => (laws_FnShifts.j11 kj86 t378 t379 t386 x32_7 t428 t377 (t377.length : Int) x203_7 (!t432))) else (laws_FnShifts.j11 kj86 t378 t379 t386 x32_7 t428 t377 (t377.length : Int) x203_7 true)) = some r := by rw [if_pos rfl] at H; exact H
                     clear H
                     have H := H1
                     clear H1
                     by_cases c104 : t431 = true
                     ·subst c104
                      have H1 : ((laws_qBools.f kj86 t424 t428).bind fun t432 => (laws_FnShifts.j11 kj86 t378 t379 t386 x32_7 t428 t377 (t377.length : Int) x203_7 (!t432))) = some r := by rw [if_pos rfl] at H; exact H
                      clear H
                      have H := H1
                      clear H1
                      replace H := Option.bind_eq_some_iff.mp H
                      obtain ⟨t432, A1050, H⟩ := H
                      have A105 := Aside0.mk A1050
                      clear A1050
                      have H' := Aside0.mk H
                      clear H
                      obtain ⟨Ao106, co106, eo106⟩ := Kd.R_slice HO426.out
                      subst eo106
                      obtain ⟨Ao107, co107, eo107⟩ := Kd.R_slice HO430.out
                      subst eo107
                      go_wp2_with (first | (go_at_call 18; (with_reducible refine (laws_qBools.calls kj86 _ _ t424 _ _ t428 t432 _ ?side1 ?side2 ?side3 ?side4 A105.out).mono ?_); (case side1 => exact cRx8 HO426.out); (case side2 => exact (Kd.R_reads' HO426.out).2.1); (case side3 => exact cRx8 HO430.out); (case side4 => exact (Kd.R_reads' HO430.out).2.1); rintro e w' ⟨rfl, ⟨nd, rfl⟩⟩))
                      go_meet
                      case rel => exact ⟨_, (!t432), (by first | rfl | (simp; done) | (simp [*]; done)), H', ⟨by have := HJ2.out; have := HJ13.out; have := HJ25.out; have := HJ59.out; have := HJ61.out; have := HJ84.out; have := HK7.out; have := HJ86.out; first | omega | exact Nat.le_refl _⟩, ⟨rRx8 HO_10.out⟩, ⟨by exact rRx8 (Kd.R_mono HO430.out (fun _ hk => trivial))⟩, ⟨by exact rRx8 (Kd.R_mono HO_201.out (fun _ hk => hk.2))⟩, ⟨rBx8 BK423.out⟩, ⟨be1x8 HB.out GE423.out⟩⟩
                     ·replace c104 := Bool.eq_false_iff.mpr c104
                      subst c104
                      have H1 : (laws_FnShifts.j11 kj86 t378 t379 t386 x32_7 t428 t377 (t377.length : Int) x203_7 true) = some r := by rw [if_neg (show ¬ (false = true) by decide)] at H; exact H
                      clear H
                      have H := H1
                      clear H1
                      have H' := Aside0.mk H
                      clear H
                      go_wp2
                      go_meet
                      case rel => exact ⟨_, (true), (by first | rfl | (simp; done) | (simp [*]; done)), H', ⟨by have := HJ2.out; have := HJ13.out; have := HJ25.out; have := HJ59.out; have := HJ61.out; have := HJ84.out; have := HK7.out; have := HJ86.out; first | omega | exact Nat.le_refl _⟩, ⟨rRx8 HO_10.out⟩, ⟨by exact rRx8 (Kd.R_mono HO430.out (fun _ hk => trivial))⟩, ⟨by exact rRx8 (Kd.R_mono HO_201.out (fun _ hk => hk.2))⟩, ⟨rBx8 BK423.out⟩, ⟨be1x8 HB.out GE423.out⟩⟩
                    ·replace c103 := Bool.eq_false_iff.mpr c103
                     subst c103
                     have H1 : (laws_FnShifts.j11 kj86 t378 t379 t386 x32_7 t428 t377 (t377.length : Int) x203_7 true) = some r := by rw [if_neg (show ¬ (false = true) by decide)] at H; exact H
                     clear H
                     have H := H1
                     clear H1
                     have H' := Aside0.mk H
                     clear H
                     go_wp2
                     go_meet
                     case rel => exact ⟨_, (true), (by first | rfl | (simp; done) | (simp [*]; done)), H', ⟨by have := HJ2.out; have := HJ13.out; have := HJ25.out; have := HJ59.out; have := HJ61.out; have := HJ84.out; have := HK7.out; have := HJ86.out; first | omega | exact Nat.le_refl _⟩, ⟨rRx8 HO_10.out⟩, ⟨by exact rRx8 (Kd.R_mono HO430.out (fun _ hk => trivial))⟩, ⟨by exact rRx8 (Kd.R_mono HO_201.out (fun _ hk => hk.2))⟩, ⟨rBx8 BK423.out⟩, ⟨be1x8 HB.out GE423.out⟩⟩
                   case rest =>
                    clear HC97
                    try clear c93; try clear c93b0; try clear c94; try clear c94b0; try clear c103; try clear c104; try clear hcz101_0 hcz101_1 hcz101_2; try clear hcz99_0 hcz99_1 hcz99_2; try clear hfz101_0 hfz101_1 hfz101_2; try clear hfz99_0 hfz99_1 hfz99_2; try clear hx422_0; try clear hx422_1; try clear hx422_2; try clear p422; try clear q422
                    obtain ⟨kq, x237_96, rfl, HA, HJ96, HO_10, HO_37, HO_201, BK423, HB⟩ := hcut
                    cases kq with
                    | zero => exact absurd HA.out (by simp [laws_FnShifts.j11])
                    | succ kj96 =>
                     have H := HA.out
                     clear HA
                     simp only [laws_FnShifts.j11] at H
                     have HC108 := Aside0.mk H
                     clear H
                     go_upto_if 237 with (fail)
                     go_cut [] (fun wc => ∃ (kq : Nat), Aside0 (laws_FnShifts.j12 kq t378 t379 t386 x32_7 t428 t377 (t377.length : Int) x203_7 = some r) ∧ Aside0 (kq ≤ kj96) ∧ Aside0 (Kd.R (Kd.int .i64) 3 wc w.heap.size (fun _ => True) v388 t386) ∧ Aside0 (Kd.R Kd.bool 4 wc w.heap.size (fun _ => True) v429 t428) ∧ Aside0 (Kd.R k24 24 wc w.heap.size (fun k_ => k_ ≠ gb423) (.slice (some ad422) t377.length co16) t377) ∧ Aside0 (wc.heap[gb423]? = some (.cells #[.int .i64 ((rd_T24 t377 x203_7).f0), .int .i64 ((rd_T24 t377 x203_7).f1), .bool ((rd_T24 t377 x203_7).f2)] 24 (0, 0))) ∧ Aside0 (Below w.heap.size w wc))
                     case first =>
                      as_aux_lemma =>
                      have H := HC108.out
                      clear HC108
                      by_cases c109 : x237_96 = true
                      ·subst c109
                       have H1 : (some false) = some r := by rw [if_pos rfl] at H; exact H
                       clear H
                       have H := H1
                       clear H1
                       obtain rfl := Option.some.inj H
                       go_wp2
                       go_ret
                       exact ⟨by first | rfl | (simp [errW_none, errW_some] <;> rfl) | (simp [*, errW_none, errW_some] <;> rfl), be1x8 HB.out GE423.out⟩
                      ·replace c109 := Bool.eq_false_iff.mpr c109
                       subst c109
                       have H1 : (laws_FnShifts.j12 kj96 t378 t379 t386 x32_7 t428 t377 (t377.length : Int) x203_7) = some r := by rw [if_neg (show ¬ (false = true) by decide)] at H; exact H
                       clear H
                       have H := H1
                       clear H1
                       have H' := Aside0.mk H
                       clear H
                       go_wp2
                       go_meet
                       case rel => exact ⟨_, H', ⟨by have := HJ2.out; have := HJ13.out; have := HJ25.out; have := HJ59.out; have := HJ61.out; have := HJ84.out; have := HK7.out; have := HJ86.out; have := HJ96.out; first | omega | exact Nat.le_refl _⟩, ⟨rRx8 HO_10.out⟩, ⟨rRx8 HO_37.out⟩, ⟨rRx8 HO_201.out⟩, ⟨rBx8 BK423.out⟩, ⟨be1x8 HB.out GE423.out⟩⟩
                     case rest =>
                      clear HC108
                      try clear c109
                      obtain ⟨kq, HA, HJ107, HO_10, HO_37, HO_201, BK423, HB⟩ := hcut
                      cases kq with
                      | zero => exact absurd HA.out (by simp [laws_FnShifts.j12])
                      | succ kj107 =>
                       have H := HA.out
                       clear HA
                       simp only [laws_FnShifts.j12] at H
                       have H' := Aside0.mk H
                       clear H
                       obtain ⟨Ao110, co110, eo110⟩ := Kd.R_slice HO_37.out
                       subst eo110
                       go_wp2
                       go_loopg [32, 240] kj107 (fun kq v32 v240 w' => ∃ (x32_11 : Int) (x240_11 : Int), v32 = .int .i64 x32_11 ∧ v240 = .int .i64 x240_11 ∧ Aside0 (laws_FnShifts.l2 kq t378 t379 t386 x32_11 t377 (t377.length : Int) x203_7 t428 (t428.length : Int) x240_11 = some r) ∧ Aside0 (kq ≤ kj107) ∧ Aside0 (Kd.R (Kd.int .i64) 3 w' w.heap.size (fun _ => True) v388 t386) ∧ Aside0 (Kd.R k24 24 w' w.heap.size (fun k_ => k_ ≠ gb423) (.slice (some ad422) t377.length co16) t377) ∧ Aside0 (Kd.R Kd.bool 4 w' w.heap.size (fun _ => True) (.slice Ao110 t428.length co110) t428) ∧ Aside0 (w'.heap[gb423]? = some (.cells #[.int .i64 ((rd_T24 t377 x203_7).f0), .int .i64 ((rd_T24 t377 x203_7).f1), .bool ((rd_T24 t377 x203_7).f2)] 24 (0, 0))) ∧ Aside0 (Below w.heap.size w w'))
                       case atStart => exact ⟨(x32_7), (0), (by first | rfl | (simp; done) | (simp [*]; done)), (by first | rfl | (simp; done) | (simp [*]; done)), H', ⟨Nat.le_refl _⟩, ⟨rRx8 HO_10.out⟩, ⟨rRx8 HO_201.out⟩, ⟨rRx8 HO_37.out⟩, ⟨rBx8 BK423.out⟩, ⟨be1x8 HB.out GE423.out⟩⟩
                       case round =>
                        as_aux_lemma =>
                        clear H'
                        obtain ⟨x32_11, x240_11, rfl, rfl, HA, HK11, HO_10, HO_201, HO_238, BK423, HB⟩ := hrel
                        cases gk with
                        | zero => exact absurd HA.out (by simp [laws_FnShifts.l2])
                        | succ k11 =>
                         have H := HA.out
                         clear HA
                         simp only [laws_FnShifts.l2] at H
                         by_cases c111 : x240_11 < (t428.length : Int)
                         ·rw [if_pos c111] at H
                          have c111b0 : decide (x240_11 < (t428.length : Int)) = true := decide_eq_true c111
                          clear c111
                          by_cases c112 : 0 ≤ x240_11
                          ·rw [if_pos c112] at H
                           have c112b0 : decide (0 ≤ x240_11) = true := decide_eq_true c112
                           clear c112
                           by_cases c113 : x240_11 < (t428.length : Int)
                           ·rw [if_pos c113] at H
                            have c113b0 : decide (x240_11 < (t428.length : Int)) = true := decide_eq_true c113
                            clear c113
                            obtain ⟨bq114, hbq114⟩ : ∃ b_ : Bool, b_ = (rdOf false t428 x240_11) := ⟨_, rfl⟩
                            replace H : (if bq114 = true then (laws_FnShifts.l2 k11 t378 t379 t386 (wrap64 (x32_11 + 1)) t377 (t377.length : Int) x203_7 t428 (t428.length : Int) (wrap64 (x240_11 + 1))) else (laws_FnShifts.l2 k11 t378 t379 t386 x32_11 t377 (t377.length : Int) x203_7 t428 (t428.length : Int) (wrap64 (x240_11 + 1)))) = some r := by rw [← hbq114] at H; exact H
                            have Nbq114 := Aside0.mk hbq114
                            clear hbq114
                            by_cases c115 : bq114 = true
                            ·subst c115
                             have H1 : (laws_FnShifts.l2 k11 t378 t379 t386 (wrap64 (x32_11 + 1)) t377 (t377.length : Int) x203_7 t428 (t428.length : Int) (wrap64 (x240_11 + 1))) = some r := by rw [if_pos rfl] at H; exact H
                             clear H
                             have H := H1
                             clear H1
                             have H' := Aside0.mk H
                             clear H
                             have p433 : 0 ≤ (x240_11 : Int) := of_decide_eq_true (by first | (with_reducible assumption) | assumption)
                             have q433 : x240_11 < (t428.length : Int) := of_decide_eq_true (by first | (with_reducible assumption) | assumption)
                             obtain ⟨ad433, e433, hx433_0⟩ := Kd.at_bool (Kd.R_reads' HO_238.out).2.2 x240_11 p433 q433
                             (try rw [← Nbq114.out] at hx433_0)
                             cases e433
                             replace p433 := eq_true p433
                             replace q433 := eq_true q433
                             go_wp2
                             go_roundg k11
                             case measure => have := HJ2.out; have := HJ13.out; have := HJ25.out; have := HJ59.out; have := HJ61.out; have := HJ84.out; have := HK7.out; have := HJ86.out; have := HJ96.out; have := HJ107.out; have := HK11.out; omega
                             case rel => exact ⟨(wrap64 (x32_11 + 1)), (wrap64 (x240_11 + 1)), (by first | rfl | (simp; done) | (simp [*]; done)), (by first | rfl | (simp; done) | (simp [*]; done)), H', ⟨by have := HJ2.out; have := HJ13.out; have := HJ25.out; have := HJ59.out; have := HJ61.out; have := HJ84.out; have := HK7.out; have := HJ86.out; have := HJ96.out; have := HJ107.out; have := HK11.out; omega⟩, ⟨rRx8 HO_10.out⟩, ⟨rRx8 HO_201.out⟩, ⟨rRx8 HO_238.out⟩, ⟨rBx8 BK423.out⟩, ⟨be1x8 HB.out GE423.out⟩⟩
                            ·replace c115 := Bool.eq_false_iff.mpr c115
                             subst c115
                             have H1 : (laws_FnShifts.l2 k11 t378 t379 t386 x32_11 t377 (t377.length : Int) x203_7 t428 (t428.length : Int) (wrap64 (x240_11 + 1))) = some r := by rw [if_neg (show ¬ (false = true) by decide)] at H; exact H
                             clear H
                             have H := H1
                             clear H1
                             have H' := Aside0.mk H
                             clear H
                             have p433 : 0 ≤ (x240_11 : Int) := of_decide_eq_true (by first | (with_reducible assumption) | assumption)
                             have q433 : x240_11 < (t428.length : Int) := of_decide_eq_true (by first | (with_reducible assumption) | assumption)
                             obtain ⟨ad433, e433, hx433_0⟩ := Kd.at_bool (Kd.R_reads' HO_238.out).2.2 x240_11 p433 q433
                             (try rw [← Nbq114.out] at hx433_0)
                             cases e433
                             replace p433 := eq_true p433
                             replace q433 := eq_true q433
                             go_wp2
                             go_roundg k11
                             case measure => have := HJ2.out; have := HJ13.out; have := HJ25.out; have := HJ59.out; have := HJ61.out; have := HJ84.out; have := HK7.out; have := HJ86.out; have := HJ96.out; have := HJ107.out; have := HK11.out; omega
                             case rel => exact ⟨(x32_11), (wrap64 (x240_11 + 1)), (by first | rfl | (simp; done) | (simp [*]; done)), (by first | rfl | (simp; done) | (simp [*]; done)), H', ⟨by have := HJ2.out; have := HJ13.out; have := HJ25.out; have := HJ59.out; have := HJ61.out; have := HJ84.out; have := HK7.out; have := HJ86.out; have := HJ96.out; have := HJ107.out; have := HK11.out; omega⟩, ⟨rRx8 HO_10.out⟩, ⟨rRx8 HO_201.out⟩, ⟨rRx8 HO_238.out⟩, ⟨rBx8 BK423.out⟩, ⟨be1x8 HB.out GE423.out⟩⟩
                           ·rw [if_neg c113] at H
                            exact absurd H (by simp)
                          ·rw [if_neg c112] at H
                           exact absurd H (by simp)
                         ·rw [if_neg c111] at H
                          have c111b0 : decide (x240_11 < (t428.length : Int)) = false := decide_eq_false c111
                          clear c111
                          have H' := Aside0.mk H
                          clear H
                          go_wp2
                          go_roundg k11
                          case measure => have := HJ2.out; have := HJ13.out; have := HJ25.out; have := HJ59.out; have := HJ61.out; have := HJ84.out; have := HK7.out; have := HJ86.out; have := HJ96.out; have := HJ107.out; have := HK11.out; omega
                          case rel => exact ⟨(x32_11), (wrap64 (x203_7 + 1)), (by first | rfl | (simp; done) | (simp [*]; done)), (by first | rfl | (simp; done) | (simp [*]; done)), H', ⟨by have := HJ2.out; have := HJ13.out; have := HJ25.out; have := HJ59.out; have := HJ61.out; have := HJ84.out; have := HK7.out; have := HJ86.out; have := HJ96.out; have := HJ107.out; have := HK11.out; omega⟩, ⟨rRx8 HO_10.out⟩, ⟨by exact rRx8 (Kd.R_mono HO_201.out (fun _ hk => trivial))⟩, ⟨be1x8 HB.out GE423.out⟩⟩
                  ·rw [if_neg c94] at H
                   exact absurd H (by simp)
                 ·rw [if_neg c93] at H
                  exact absurd H (by simp)

/-- THE ONE PURE STATEMENT of laws_FnShifts: yours. -/
def laws_FnShifts.Pure : Prop := ∀ (l0 : List Int) (l1 : List Int), l0.length ≤ maxLen → l0.length * 1 ≤ 140737488351232 → (∀ x ∈ l0, (Lit.int .u8 x).wf = true) → l1.length ≤ maxLen → l1.length * 1 ≤ 140737488351232 → (∀ x ∈ l1, (Lit.int .u8 x).wf = true) → ∃ k, laws_FnShifts.f k l0 l1 = some true
theorem laws_FnShifts.walk (P : laws_FnShifts.Pure) (a0 : Option Addr) (len0 cap0 : Nat) (z0 : List Int) (a1 : Option Addr) (len1 cap1 : Nat) (z1 : List Int) (w : World) (w0 : (a0 = none ∧ len0 = 0 ∧ cap0 = 0 ∧ z0 = []) ∨ ∃ x, a0 = some x ∧ len0 ≤ cap0 ∧ cap0 ≤ maxLen ∧ z0.length = cap0 ∧ (∀ i, i < z0.length → w.cell? (x.add i) = some (.int .u8 (z0.getD i 0))) ∧ ∀ n ∈ z0, (Lit.int .u8 n).wf = true) (y0 : len0 * 1 ≤ 140737488351232) (w1 : (a1 = none ∧ len1 = 0 ∧ cap1 = 0 ∧ z1 = []) ∨ ∃ x, a1 = some x ∧ len1 ≤ cap1 ∧ cap1 ≤ maxLen ∧ z1.length = cap1 ∧ (∀ i, i < z1.length → w.cell? (x.add i) = some (.int .u8 (z1.getD i 0))) ∧ ∀ n ∈ z1, (Lit.int .u8 n).wf = true) (y1 : len1 * 1 ≤ 140737488351232) :
  Calls Try.prog 4 #[.slice a0 len0 cap0, .slice a1 len1 cap1] w fun e w' => e = .returned (.bool true) ∧ Below w.heap.size w w' := by
 obtain ⟨l0, rfl, hr0, hm0, hw0, hc0⟩ := ReadsInt.ofRowC w0
 obtain ⟨l1, rfl, hr1, hm1, hw1, hc1⟩ := ReadsInt.ofRowC w1
 obtain ⟨k, h⟩ := P l0 l1 hm0 y0 hw0 hm1 y1 hw1
 refine (laws_FnShifts.calls k _ _ l0 _ _ l1 true w (Kd.C_of_reads (d := (0 : Int)) (h1 := fun _ => rfl) hr0) hc0 (Kd.C_of_reads (d := (0 : Int)) (h1 := fun _ => rfl) hr1) hc1 h).mono ?_
 rintro e w' ⟨rfl, hd⟩
 exact ⟨rfl, hd⟩

end Go.Proofs.Ytccpgcgaaiafnaa.PFnShifts
