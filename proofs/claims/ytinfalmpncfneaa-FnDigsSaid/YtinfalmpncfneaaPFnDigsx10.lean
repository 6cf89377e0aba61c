/- This text is this session's own, not the print's: programs (wip/squeeze.py and others) made it out of what print.sh, or wip/ownprint.py, had written (BYTES set higher), its facts said by short words. -/
import Derived.Test.YtinfalmpncfneaaPFnDigsx0
import Derived.Test.YtinfalmpncfneaaPFnDigsx1
import Derived.Test.YtinfalmpncfneaaPFnDigsx2
import Derived.Test.YtinfalmpncfneaaPFnDigsx3
import Derived.Test.YtinfalmpncfneaaPFnDigsx4
import Derived.Test.YtinfalmpncfneaaPFnDigsx6
import Derived.Test.YtinfalmpncfneaaPFnDigsx7
import Derived.Test.YtinfalmpncfneaaPFnDigsx8
import Derived.Test.YtinfalmpncfneaaPFnDigsx9
import Derived.Test.YtinfalmpncfneaaPFnDigsrx10
import Derived.Test.YtinfalmpncfneaaPFnDigswx10
namespace Go.Proofs.Ytinfalmpncfneaa.PFnDigs
open Go.RowKit Go.Proofs.YtinfalmpncfneaaW.PrintWords Go.Proofs.YtinfalmpncfneaaW.PrintLast Go.Proofs.YtinfalmpncfneaaW.PrintMore
attribute [local go_sem] max2_int min2_int max_two min_two max_three min_three max_four min_four   -- for this text's walks alone
set_option linter.unusedVariables false
set_option linter.unusedSimpArgs false

/-! ### laws_FnDigs: function 8 -/
mutual
def laws_FnDigs.j0 : Nat → List Int → Int → List Bool → Bool → List Bool → Int → Bool → Int → Int → List Int → Option (Bool)
 | 0, _, _, _, _, _, _, _, _, _, _ => none
 | k + 1, x1, x6, x7, x9, x10, x11, x94, x410000, x410001, x410002 => if x94 = true then (some false) else (if x9 = true then ((impl_DigValue.f k x410000 x410001 x410002 x7).bind fun bt423 => ((impl_RowWidth.f k x410000 x410001 x410002 x7).bind fun bt425 => ((impl_LossAndWaste.f k x410000 x410001 x410002 x7).bind fun bt427 => (laws_FnDigs.l0 k x1 x6 x10 x11 bt423.1 bt423.2 bt425.1 bt425.2 bt427.1 bt427.2.1 bt427.2.2 0 x410002 (x410002.length : Int) 0 x410000 x410001 x410002)))) else (laws_FnDigs.j3 k x1))
def laws_FnDigs.j3 : Nat → List Int → Option (Bool)
 | 0, _ => none
 | k + 1, x1 => (spec_DrawBestRow.f k x1).bind fun bt438 => ((impl_BestRow.f k bt438.1 bt438.2).bind fun bt442 => ((spec_BestRow.f k bt438.1 bt438.2).bind fun bt447 => ((spec_DrawLossAndWaste.f k x1).bind fun bt452 => ((impl_LossAndWaste.f k bt452.1 bt452.2.1 bt452.2.2.1 bt452.2.2.2).bind fun bt461 => ((spec_LossAndWaste.f k bt452.1 bt452.2.1 bt452.2.2.1 bt452.2.2.2).bind fun bt464 => ((spec_DrawRowWidth.f k x1).bind fun bt467 => ((impl_RowWidth.f k bt467.1 bt467.2.1 bt467.2.2.1 bt467.2.2.2).bind fun bt476 => ((spec_RowWidth.f k bt467.1 bt467.2.1 bt467.2.2.1 bt467.2.2.2).bind fun bt478 => ((impl_DigValue.f k bt467.1 bt467.2.1 bt467.2.2.1 bt467.2.2.2).bind fun bt480 => ((spec_DigValue.f k bt467.1 bt467.2.1 bt467.2.2.1 bt467.2.2.2).bind fun bt482 => (if (bt442.2.2 == bt447.2.2) = true then ((laws_pSameBools.f k bt442.1 bt447.1).bind fun t484 => (if t484 = true then (if bt442.2.1 = bt447.2.1 then (if (bt461.2.2 == bt464.2.2) = true then (if bt461.1 = bt464.1 then (if bt461.2.1 = bt464.2.1 then (if (bt476.2 == bt478.2) = true then (if bt476.1 = bt478.1 then (if (bt480.2 == bt482.2) = true then (some (bt480.1 == bt482.1)) else (some false)) else (some false)) else (some false)) else (some false)) else (some false)) else (some false)) else (some false)) else (some false))) else (some false))))))))))))
def laws_FnDigs.l0 : Nat → List Int → Int → List Bool → Int → Int → Bool → Int → Bool → Int → Int → Bool → Int → List Int → Int → Int → Int → Int → List Int → Option (Bool)
 | 0, _, _, _, _, _, _, _, _, _, _, _, _, _, _, _, _, _, _ => none
 | k + 1, x1, x6, x10, x11, x13, x14, x15, x16, x17, x18, x19, x20, x116, x117, x118, x410000, x410001, x410002 => if x118 < x117 then (if 0 ≤ x118 then (if x118 < (x116.length : Int) then (if (rd x116 x118) > 0 then (laws_FnDigs.l0 k x1 x6 x10 x11 x13 x14 x15 x16 x17 x18 x19 (wrap64 (x20 + (rd x116 x118))) x116 x117 (wrap64 (x118 + 1)) x410000 x410001 x410002) else (laws_FnDigs.l0 k x1 x6 x10 x11 x13 x14 x15 x16 x17 x18 x19 x20 x116 x117 (wrap64 (x118 + 1)) x410000 x410001 x410002)) else (none)) else (none)) else (if x14 = true then (if x13 = x11 then (if x11 < 0 then (laws_FnDigs.j2 k x1 x6 x11 true x410000 x410001 x410002) else (if x16 = true then (if x15 < x6 then (laws_FnDigs.j2 k x1 x6 x11 true x410000 x410001 x410002) else ((laws_pCount.f k x10).bind fun t431 => (if (x16 != (decide (t431 > 0))) = true then (laws_FnDigs.j2 k x1 x6 x11 true x410000 x410001 x410002) else (if x19 = true then (laws_FnDigs.j2 k x1 x6 x11 ((wrap64 ((wrap64 (x20 - x17)) - x18)) != x11) x410000 x410001 x410002) else (laws_FnDigs.j2 k x1 x6 x11 true x410000 x410001 x410002))))) else ((laws_pCount.f k x10).bind fun t432 => (if (x16 != (decide (t432 > 0))) = true then (laws_FnDigs.j2 k x1 x6 x11 true x410000 x410001 x410002) else (if x19 = true then (laws_FnDigs.j2 k x1 x6 x11 ((wrap64 ((wrap64 (x20 - x17)) - x18)) != x11) x410000 x410001 x410002) else (laws_FnDigs.j2 k x1 x6 x11 true x410000 x410001 x410002)))))) else (laws_FnDigs.j2 k x1 x6 x11 true x410000 x410001 x410002)) else (laws_FnDigs.j2 k x1 x6 x11 true x410000 x410001 x410002))
def laws_FnDigs.j2 : Nat → List Int → Int → Int → Bool → Int → Int → List Int → Option (Bool)
 | 0, _, _, _, _, _, _, _ => none
 | k + 1, x1, x6, x11, x166, x410000, x410001, x410002 => if x166 = true then (some false) else ((impl_BestDig.f k x410000 x410001 x410002 (wrap64 (x6 + 1))).bind fun bt433 => (if x6 < 8 then (if bt433.2.2 = true then (if bt433.2.1 > x11 then (some false) else (laws_FnDigs.j3 k x1)) else (some false)) else (laws_FnDigs.j3 k x1)))
end
def laws_FnDigs.f (k : Nat) (l0 : List Int) (l1 : List Int) : Option (Bool) := (laws_big.f l0 l1).bind fun t402 => (if t402 = true then (some true) else ((spec_DrawBestDig.f k l0).bind fun bt403 => ((impl_BestDig.f k bt403.1 bt403.2.1 bt403.2.2.1 bt403.2.2.2).bind fun bt410 => ((spec_BestDig.f k bt403.1 bt403.2.1 bt403.2.2.1 bt403.2.2.2).bind fun bt415 => (if (bt410.2.2 != bt415.2.2) = true then (laws_FnDigs.j0 k l1 bt403.2.2.2 bt410.1 bt410.2.2 bt415.1 bt415.2.1 true bt403.1 bt403.2.1 bt403.2.2.1) else ((laws_pSameBools.f k bt410.1 bt415.1).bind fun t420 => (if t420 = true then (if bt410.2.1 = bt415.2.1 then ((impl_IsBench.f k bt403.1 bt403.2.1 bt403.2.2.1).bind fun t421 => ((spec_IsBench.f k bt403.1 bt403.2.1 bt403.2.2.1).bind fun t422 => (laws_FnDigs.j0 k l1 bt403.2.2.2 bt410.1 bt410.2.2 bt415.1 bt415.2.1 (t421 != t422) bt403.1 bt403.2.1 bt403.2.2.1))) else (laws_FnDigs.j0 k l1 bt403.2.2.2 bt410.1 bt410.2.2 bt415.1 bt415.2.1 true bt403.1 bt403.2.1 bt403.2.2.1)) else (laws_FnDigs.j0 k l1 bt403.2.2.2 bt410.1 bt410.2.2 bt415.1 bt415.2.1 true bt403.1 bt403.2.1 bt403.2.2.1))))))))
def laws_FnDigs.T6 : Bool × List (List Nat × List Nat) := (true, [([], []), ([], []), ([0, 1], [0, 1]), ([2], [2]), ([3], [3]), ([3], [3]), ([4, 5, 3, 3], [3, 4, 5]), ([6, 3], [3, 6]), ([3, 7], [3, 7]), ([8, 6], [8]), ([9], [9]), ([9], [9]), ([10, 11, 9], [9, 10, 11]), ([9, 12], [9, 12]), ([13, 9], [13]), ([14], [14]), ([15, 14, 14], [14, 15]), ([14], [14]), ([17, 16, 14], [14, 17]), ([16, 18, 14], [14, 16, 18]), ([14, 19], [14, 19])])
def laws_FnDigs.B6 : List Nat := [0, 0, 3, 7, 15, 15, 63, 127, 255, 511, 1023, 1023, 4095, 8191, 16383, 32767, 65535, 32767, 262143, 524287, 1048575]
theorem laws_FnDigs.tab6 : rtab .any (opsOf Try.f8 6) = laws_FnDigs.T6 := by kernel_rfl
theorem laws_FnDigs.bits6 : waitsOk laws_FnDigs.T6.2 laws_FnDigs.B6 = true := by kernel_rfl
set_option maxHeartbeats 8000000 in
set_option maxRecDepth 100000 in
theorem laws_FnDigs.calls (k : Nat) (A0 : Option Addr) (c0 : Nat) (l0 : List Int) (A1 : Option Addr) (c1 : Nat) (l1 : List Int) (r : Bool) (w : World) (hr0 : Kd.C (Kd.int .u8) w A0 l0.length l0) (hc0 : l0.length ≤ c0) (hr1 : Kd.C (Kd.int .u8) w A1 l1.length l1) (hc1 : l1.length ≤ c1) (h : laws_FnDigs.f k l0 l1 = some r) (hrt : Aside0 (r = true)) :
  Calls Try.prog 8 #[.slice A0 l0.length c0, .slice A1 l1.length c1] w fun e w' => e = .returned (.bool r) ∧ Below w.heap.size w w' := by
 have hu61 := Try.underlying61
 have HR0 := Aside0.mk hr0
 have HC0 := Aside0.mk hc0
 clear hr0 hc0
 have HR1 := Aside0.mk hr1
 have HC1 := Aside0.mk hc1
 clear hr1 hc1
 have HB := Aside0.mk (Below.refl w.heap.size w)
 have H : ((laws_big.f l0 l1).bind fun t402 => (if t402 = true then (some true) else ((spec_DrawBestDig.f k l0).bind fun bt403 => ((impl_BestDig.f k bt403.1 bt403.2.1 bt403.2.2.1 bt403.2.2.2).bind fun bt410 => ((spec_BestDig.f k bt403.1 bt403.2.1 bt403.2.2.1 bt403.2.2.2).bind fun bt415 => (if (bt410.2.2 != bt415.2.2) = true then (laws_FnDigs.j0 k l1 bt403.2.2.2 bt410.1 bt410.2.2 bt415.1 bt415.2.1 true bt403.1 bt403.2.1 bt403.2.2.1) else ((laws_pSameBools.f k bt410.1 bt415.1).bind fun t420 => (if t420 = true then (if bt410.2.1 = bt415.2.1 then ((impl_IsBench.f k bt403.1 bt403.2.1 bt403.2.2.1).bind fun t421 => ((spec_IsBench.f k bt403.1 bt403.2.1 bt403.2.2.1).bind fun t422 => (laws_FnDigs.j0 k l1 bt403.2.2.2 bt410.1 bt410.2.2 bt415.1 bt415.2.1 (t421 != t422) bt403.1 bt403.2.1 bt403.2.2.1))) else (laws_FnDigs.j0 k l1 bt403.2.2.2 bt410.1 bt410.2.2 bt415.1 bt415.2.1 true bt403.1 bt403.2.1 bt403.2.2.1)) else (laws_FnDigs.j0 k l1 bt403.2.2.2 bt410.1 bt410.2.2 bt415.1 bt415.2.1 true bt403.1 bt403.2.1 bt403.2.2.1))))))))) = some r := h
 clear h
 replace H := Option.bind_eq_some_iff.mp H
 obtain ⟨t402, A30, H⟩ := H
 have A3 := Aside0.mk A30
 clear A30
 by_cases c4 : t402 = true
 ·subst c4
  have H1 : (some true) = some r := by rw [if_pos rfl] at H; exact H
  clear H
  have H := H1
  clear H1
  obtain rfl := Option.some.inj H
  go_enter Try.func8, Try.ntmps8
  go_wp2_with (first | ((with_reducible refine gate_callee (f := 41) rfl ?_); refine goesL_ (some 54) rfl rfl Try.func41 (by kernel_rfl) rfl #[.slice A0 l0.length c0, .slice A1 l1.length c1] rfl mpx10 ?_; (with_reducible refine (laws_big.calls _ _ l0 _ _ l1 true _ ?side1 ?side2 ?side3 ?side4 A3.out).mono ?_); (case side1 => repeat (first | exact HR0.out | (with_reducible refine Kd.C_alloc ?_ _) | (with_reducible refine Kd.C_drewN ?_ _) | (with_reducible refine Kd.C_drew ?_))); (case side2 => exact HC0.out); (case side3 => repeat (first | exact HR1.out | (with_reducible refine Kd.C_alloc ?_ _) | (with_reducible refine Kd.C_drewN ?_ _) | (with_reducible refine Kd.C_drew ?_))); (case side4 => exact HC1.out); rintro e w' ⟨rfl, ⟨nd, rfl⟩⟩; refine ⟨_, rfl, ?_⟩))
  go_ret
  exact ⟨by first | rfl | (simp [errW_none, errW_some] <;> rfl) | (simp [*, errW_none, errW_some] <;> rfl), be0x10 HB.out⟩
 ·replace c4 := Bool.eq_false_iff.mpr c4
  subst c4
  have H1 : ((spec_DrawBestDig.f k l0).bind fun bt403 => ((impl_BestDig.f k bt403.1 bt403.2.1 bt403.2.2.1 bt403.2.2.2).bind fun bt410 => ((spec_BestDig.f k bt403.1 bt403.2.1 bt403.2.2.1 bt403.2.2.2).bind fun bt415 => (if (bt410.2.2 != bt415.2.2) = true then (laws_FnDigs.j0 k l1 bt403.2.2.2 bt410.1 bt410.2.2 bt415.1 bt415.2.1 true bt403.1 bt403.2.1 bt403.2.2.1) else ((laws_pSameBools.f k bt410.1 bt415.1).bind fun t420 => (if t420 = true then (if bt410.2.1 = bt415.2.1 then ((impl_IsBench.f k bt403.1 bt403.2.1 bt403.2.2.1).bind fun t421 => ((spec_IsBench.f k bt403.1 bt403.2.1 bt403.2.2.1).bind fun t422 => (laws_FnDigs.j0 k l1 bt403.2.2.2 bt410.1 bt410.2.2 bt415.1 bt415.2.1 (t421 != t422) bt403.1 bt403.2.1 bt403.2.2.1))) else (laws_FnDigs.j0 k l1 bt403.2.2.2 bt410.1 bt410.2.2 bt415.1 bt415.2.1 true bt403.1 bt403.2.1 bt403.2.2.1)) else (laws_FnDigs.j0 k l1 bt403.2.2.2 bt410.1 bt410.2.2 bt415.1 bt415.2.1 true bt403.1 bt403.2.1 bt403.2.2.1))))))) = some r := by rw [if_neg (show ¬ (false = true) by decide)] at H; exact H
  clear H
  have H := H1
  clear H1
  replace H := Option.bind_eq_some_iff.mp H
  obtain ⟨⟨t403, t404, t405, t408⟩, A50, H⟩ := H
  (try dsimp only at H)
  have A5 := Aside0.mk A50
  clear A50
  replace H := Option.bind_eq_some_iff.mp H
  obtain ⟨⟨t410, t413, t414⟩, A60, H⟩ := H
  (try dsimp only at H)
  have A6 := Aside0.mk A60
  clear A60
  replace H := Option.bind_eq_some_iff.mp H
  obtain ⟨⟨t415, t418, t419⟩, A70, H⟩ := H
  (try dsimp only at H)
  have A7 := Aside0.mk A70
  clear A70
  have HC8 := Aside0.mk H
  clear H
  go_enter Try.func8, Try.ntmps8
  go_upto_region 6 with (first | ((with_reducible refine gate_callee (f := 41) rfl ?_); refine goesL_ (some 54) rfl rfl Try.func41 (by kernel_rfl) rfl #[.slice A0 l0.length c0, .slice A1 l1.length c1] rfl mpx10 ?_; (with_reducible refine (laws_big.calls _ _ l0 _ _ l1 false _ ?side1 ?side2 ?side3 ?side4 A3.out).mono ?_); (case side1 => repeat (first | exact HR0.out | (with_reducible refine Kd.C_alloc ?_ _) | (with_reducible refine Kd.C_drewN ?_ _) | (with_reducible refine Kd.C_drew ?_))); (case side2 => exact HC0.out); (case side3 => repeat (first | exact HR1.out | (with_reducible refine Kd.C_alloc ?_ _) | (with_reducible refine Kd.C_drewN ?_ _) | (with_reducible refine Kd.C_drew ?_))); (case side4 => exact HC1.out); rintro e w' ⟨rfl, ⟨nd, rfl⟩⟩; refine ⟨_, rfl, ?_⟩) | ((with_reducible refine gate_callee (f := 90) rfl ?_); refine goesL_ (some 57) rfl rfl Try.func90 (by kernel_rfl) rfl #[.slice A0 l0.length c0] rfl mpx10 ?_; (with_reducible refine (spec_DrawBestDig.calls k _ _ l0 t403 t404 t405 t408 _ ?side1 ?side2 A5.out).mono ?_); (case side1 => repeat (first | exact HR0.out | (with_reducible refine Kd.C_alloc ?_ _) | (with_reducible refine Kd.C_drewN ?_ _) | (with_reducible refine Kd.C_drew ?_))); (case side2 => exact HC0.out); rintro e w9 ⟨v406, rfl, ho0, hb⟩; refine ⟨_, rfl, ?_⟩; have HO407 := Aside0.mk (Kd.R_lower ho0 (below_size (be0x10 HB.out))); replace HB := Aside0.mk (below_step (be0x10 HB.out) hb); (try clear hb); (try clear hb2); (try clear hk); (try clear hi); (try clear ho0)) | ((with_reducible refine gate_dst (N := 5) rfl ?_); refine box_event ?hg (N := 5) ?hd (cs := #[.int .i64 0, .int .i64 0, .slice none 0 0]) (t := 61) ?hr ?_; (case hd => rfl); (case hg => rfl); (case hr => first | (go_simp; done) | (go_simp; rfl)); intro gb409 hg w10 hbox hb; replace HO407 := Aside0.mk (Kd.R_below (rRx10 HO407.out) hb); have BK409 := Aside0.mk (hbox); have GW409 := Aside0.mk ((by rw [hg]; exact (below_size (be0x10 HB.out)) : w.heap.size ≤ gb409)); have GE409 := Aside0.mk ((by rw [hg]; exact (below_size (be0x10 HB.out)) : w.heap.size ≤ gb409)); replace HB := Aside0.mk (below_step (be0x10 HB.out) hb); clear hb hbox hg; obtain ⟨hcz11_0, hcz11_1, hcz11_2, hfz11_0, hfz11_1, hfz11_2⟩ := cf3x10 BK409.out; obtain ⟨Ao12, co12, eo12⟩ := Kd.R_slice HO407.out; subst eo12) | ((with_reducible refine gate_callee (f := 91) rfl ?_); refine goesL_ (some 63) rfl rfl Try.func91 (by kernel_rfl) rfl #[.agg #[.int .i64 t403, .int .i64 t404, .slice Ao12 t405.length co12], .int .i64 t408] rfl mpx10 ?_; (with_reducible refine (impl_BestDig.calls k t403 t404 _ _ t405 t408 t410 t413 t414 _ ?side1 ?side2 A6.out).mono ?_); (case side1 => exact cS3x10 HO407.out BK409.out); (case side2 => exact (Kd.R_reads' HO407.out).2.1); rintro e w13 ⟨v411, rfl, ho0, hb⟩; refine ⟨_, rfl, ?_⟩; replace HO407 := Aside0.mk (Kd.R_below (sR3x10 HO407.out BK409.out) hb); have HO412 := Aside0.mk (Kd.R_lower ho0 (below_size (be1x10 HB.out GE409.out))); replace BK409 := Aside0.mk (blk_below (g := gb409) (o := .cells #[.int .i64 t403, .int .i64 t404, .slice Ao12 t405.length co12] 61 (0, 0)) (by (with_reducible repeat (first | refine blk_drewN ?_ _ | refine blk_drew ?_ | refine blk_alloc ?_ _)); refine blk_put (cs := #[.int .i64 t403, .int .i64 t404, .slice none 0 0]) ?_ 2 _ rfl; (with_reducible repeat (first | refine blk_drewN ?_ _ | refine blk_drew ?_ | refine blk_alloc ?_ _)); refine blk_put (cs := #[.int .i64 t403, .int .i64 0, .slice none 0 0]) ?_ 1 _ rfl; (with_reducible repeat (first | refine blk_drewN ?_ _ | refine blk_drew ?_ | refine blk_alloc ?_ _)); refine blk_put (cs := #[.int .i64 0, .int .i64 0, .slice none 0 0]) ?_ 0 _ rfl; (with_reducible repeat (first | refine blk_drewN ?_ _ | refine blk_drew ?_ | refine blk_alloc ?_ _)); exact BK409.out) hb); replace HB := Aside0.mk (below_step (be1x10 HB.out GE409.out) hb); (try clear hb); (try clear hb2); (try clear hk); (try clear hi); (try clear ho0); obtain ⟨hcz14_0, hcz14_1, hcz14_2, hfz14_0, hfz14_1, hfz14_2⟩ := cf3x10 BK409.out) | ((with_reducible refine gate_callee (f := 92) rfl ?_); refine goesL_ (some 70) rfl rfl Try.func92 (by kernel_rfl) rfl #[.agg #[.int .i64 t403, .int .i64 t404, .slice Ao12 t405.length co12], .int .i64 t408] rfl mpx10 ?_; (with_reducible refine (spec_BestDig.calls k t403 t404 _ _ t405 t408 t415 t418 t419 _ ?side1 ?side2 A7.out).mono ?_); (case side1 => exact cRx10 HO407.out); (case side2 => exact (Kd.R_reads' HO407.out).2.1); rintro e w15 ⟨v416, rfl, ho0, hb⟩; refine ⟨_, rfl, ?_⟩; replace HO407 := Aside0.mk (Kd.R_below (rRx10 HO407.out) hb); have HO417 := Aside0.mk (Kd.R_lower (nwx10 ho0 (rRx10 HO412.out)) (below_size (be1x10 HB.out GE409.out))); replace HO412 := Aside0.mk (Kd.R_elder' (rRx10 HO412.out) (Kd.R_base ho0) hb); replace BK409 := Aside0.mk (blk_below (rBx10 BK409.out) hb); replace HB := Aside0.mk (below_step (be1x10 HB.out GE409.out) hb); (try clear hb); (try clear hb2); (try clear hk); (try clear hi); (try clear ho0)))
  (try simp only [Act.put, List.setIfInBounds_toArray, List.set_cons_zero, List.set_cons_succ])
  go_cut [94] (fun v94 wc => ∃ (kq : Nat) (x94_7 : Bool), v94 = .bool x94_7 ∧ Aside0 (laws_FnDigs.j0 kq l1 t408 t410 t414 t415 t418 x94_7 t403 t404 t405 = some r) ∧ Aside0 (kq ≤ k) ∧ Aside0 (Kd.R Kd.bool 4 wc w.heap.size (fun k_ => some k_ ≠ (v416 : Value).ownBlock) v411 t410) ∧ Aside0 (Kd.R Kd.bool 4 wc w.heap.size (fun k_ => some k_ ≠ (v411 : Value).ownBlock) v416 t415) ∧ Aside0 (Kd.R (Kd.int .i64) 3 wc w.heap.size (fun _ => True) (.slice Ao12 t405.length co12) t405) ∧ Aside0 (wc.heap[gb409]? = some (.cells #[.int .i64 t403, .int .i64 t404, (.slice Ao12 t405.length co12)] 61 (0, 0))) ∧ Aside0 (Below w.heap.size w wc))
  case first =>
   as_aux_lemma =>
   have H := HC8.out
   clear HC8
   by_cases c16 : (t414 != t419) = true
   ·rw [if_pos c16] at H
    have c16b0 : (t414 != t419) = true := c16
    (try (have c16b1 : decide (t414 = t419) = false := by simpa using c16))
    (try (have c16b2 : (t414 == t419) = false := by simpa using c16))
    (try (have c16b3 : ¬ (t414 = t419) := by simpa using c16))
    clear c16
    (first | rw [c16b0] | (simp only [i64_w, i32_w]; rw [c16b0]) | skip)
    exact absurd (H.trans (congrArg some hrt.out)) (by generalize k = k_; cases k_ <;> simp [laws_FnDigs.j0])
   ·rw [if_neg c16] at H
    have c16b0 : (t414 != t419) = false := by simpa using c16
    (try (have c16b1 : decide (t414 = t419) = true := by simpa using c16))
    (try (have c16b2 : (t414 == t419) = true := by simpa using c16))
    clear c16
    (first | rw [c16b0] | (simp only [i64_w, i32_w]; rw [c16b0]) | skip)
    replace H := Option.bind_eq_some_iff.mp H
    obtain ⟨t420, A170, H⟩ := H
    have A17 := Aside0.mk A170
    clear A170
    by_cases c18 : t420 = true
    ·subst c18
     have H1 : (if t413 = t418 then ((impl_IsBench.f k t403 t404 t405).bind fun t421 => ((spec_IsBench.f k t403 t404 t405).bind fun t422 => (laws_FnDigs.j0 k l1 t408 t410 t414 t415 t418 (t421 != t422) t403 t404 t405))) else (laws_FnDigs.j0 k l1 t408 t410 t414 t415 t418 true t403 t404 t405)) = some r := by rw [if_pos rfl] at H; exact H
     clear H
     have H := H1
     clear H1
     by_cases c19 : t413 = t418
     ·rw [if_pos c19] at H
      have c19b0 : (t413 == t418) = true := beq_iff_eq.mpr c19
      have c19b1 : (t413 != t418) = false := bne_eq_false_iff_eq.mpr c19
      clear c19
      replace H := Option.bind_eq_some_iff.mp H
      obtain ⟨t421, A200, H⟩ := H
      have A20 := Aside0.mk A200
      clear A200
      replace H := Option.bind_eq_some_iff.mp H
      obtain ⟨t422, A210, H⟩ := H
      have A21 := Aside0.mk A210
      clear A210
      have H' := Aside0.mk H
      clear H
      try go_wp2
      replace HO407 := Aside0.mk (Kd.R_drew HO407.out)
      replace HO412 := Aside0.mk (Kd.R_drew HO412.out)
      replace HO417 := Aside0.mk (Kd.R_drew HO417.out)
      replace BK409 := Aside0.mk (blk_drew BK409.out)
      replace HB := Aside0.mk (below_drew1 HB.out)
      obtain ⟨Ao23, co23, eo23⟩ := Kd.R_slice HO412.out
      (first | subst eo23 | (injection eo23 with f1_ f2_ f3_; have f4_ := f1_.symm; have f5_ := f3_.symm; clear f1_ f2_ f3_; subst f4_; subst f5_))
      obtain ⟨Ao24, co24, eo24⟩ := Kd.R_slice HO417.out
      (first | subst eo24 | (injection eo24 with f1_ f2_ f3_; have f4_ := f1_.symm; have f5_ := f3_.symm; clear f1_ f2_ f3_; subst f4_; subst f5_))
      refine start_ (n := 21) (S := fun w' => w'.cell? ⟨gb409, 0, none⟩ = some (.int .i64 t403) ∧ w'.cell? ⟨gb409, 1, none⟩ = some (.int .i64 t404) ∧ w'.cell? ⟨gb409, 2, none⟩ = some (.slice Ao12 t405.length co12)) (ds := []) (tf_ 0 21) (by kernel_rfl) rfl rfl (cc3x10 BK409.out) (fun hHeld => ?_); refine with_tabW laws_FnDigs.tab6 laws_FnDigs.bits6 (fun HT_ HW_ => ?_)
      generalize w15.drew = w22 at HO407 HO412 HO417 BK409 HB hHeld ⊢
      refine pv_ 0 74 (tf_ 1 21) HT_ ?_
      refine pv_ 1 75 (tf_ 2 21) HT_ ?_
      refine pv_ 2 76 (tf_ 3 21) HT_ ?_
      refine pv_ 3 77 (tf_ 4 21) HT_ ?_
      refine pv_ 4 78 (tf_ 5 21) HT_ ?_
      refine pv_ 5 79 (tf_ 6 21) HT_ ?_
      refine one_ (i := 6) (N := some 80) (tf_ 7 21) rfl rfl (one_of HT_.out (by kernel_rfl)) (by decide) (fun K hK => ?_)
      refine goes_ Try.func55 (by kernel_rfl) rfl #[.slice Ao23 t410.length co23, .slice Ao24 t415.length co24] (by rfl) rfl rfl mpx10 ?_
      with_reducible refine (laws_pSameBools.calls k _ _ t410 _ _ t415 true _ ?side1 ?side2 ?side3 ?side4 A17.out).mono ?_
      (case side1 => exact cRx10 HO412.out)
      (case side2 => exact (Kd.R_reads' HO412.out).2.1)
      (case side3 => exact cRx10 HO417.out)
      (case side4 => exact (Kd.R_reads' HO417.out).2.1)
      rintro e w' ⟨rfl, ⟨nd, rfl⟩⟩
      refine ⟨_, rfl, ?_⟩
      refine hK.out _ _ (cc3x10 BK409.out) (fun hHeld => ?_)
      clear hK K
      refine norm_ (a' := ?_) ?_ ?_
      rotate_left
      ·show Act.put _ (some 80) _ = _
       simp only [Act.put, List.setIfInBounds_toArray, List.set_cons_zero, List.set_cons_succ, i64_w, i32_w]
       rfl
      refine pv_ 7 81 (tf_ 8 21) HT_ ?_
      refine pv_ 8 82 (tf_ 9 21) HT_ ?_
      refine pv_ 9 83 (tf_ 10 21) HT_ ?_
      refine pv_ 10 84 (tf_ 11 21) HT_ ?_
      refine pv_ 11 85 (tf_ 12 21) HT_ ?_
      refine pv_ 12 86 (tf_ 13 21) HT_ ?_
      refine pv_ 13 87 (tf_ 14 21) HT_ ?_
      refine pv_ 14 88 (tf_ 15 21) HT_ ?_
      refine take_ (i := 15) (N := some 89) (v := ?_) (a' := ?_) (tf_ 16 21) rfl rfl (take_ofW HT_.out HW_.out (by kernel_rfl)) (fun _ _ _ h => h) (Or.inl ⟨by rfl, ?_⟩) hHeld ?_ ?_
      rotate_left
      ·rintro w' ⟨s0, s1, s2⟩
       go_simp
       with_reducible rfl
      rotate_left
      ·simp only [Act.put, List.setIfInBounds_toArray, List.set_cons_zero, List.set_cons_succ, i64_w, i32_w]
       rfl
      refine take_ (i := 17) (N := some 91) (v := ?_) (a' := ?_) #[true, true, true, true, true, true, true, true, true, true, true, true, true, true, true, true, false, true, false, false, false] rfl rfl (take_ofW HT_.out HW_.out (by kernel_rfl)) (fun _ _ _ h => h) (Or.inl ⟨by rfl, ?_⟩) hHeld ?_ ?_
      rotate_left
      ·rintro w' ⟨s0, s1, s2⟩
       go_simp
       with_reducible rfl
      rotate_left
      ·simp only [Act.put, List.setIfInBounds_toArray, List.set_cons_zero, List.set_cons_succ, i64_w, i32_w]
       rfl
      refine one_ (i := 16) (N := some 90) (tf_ 18 21) rfl rfl (one_of HT_.out (by kernel_rfl)) (by decide) (fun K hK => ?_)
      refine goes_ Try.func93 (by kernel_rfl) rfl #[.agg #[.int .i64 t403, .int .i64 t404, .slice Ao12 t405.length co12]] (by rfl) rfl rfl mpx10 ?_
      with_reducible refine (impl_IsBench.calls k t403 t404 _ _ t405 t421 _ ?side1 ?side2 A20.out).mono ?_
      (case side1 => exact cRx10 HO407.out)
      (case side2 => exact (Kd.R_reads' HO407.out).2.1)
      rintro e w25 ⟨rfl, hb⟩
      refine ⟨_, rfl, ?_⟩
      replace HO407 := Aside0.mk (Kd.R_below (rRx10 HO407.out) hb)
      replace HO412 := Aside0.mk (Kd.R_below (rRx10 HO412.out) hb)
      replace HO417 := Aside0.mk (Kd.R_below (rRx10 HO417.out) hb)
      replace BK409 := Aside0.mk (blk_below (rBx10 BK409.out) hb)
      replace HB := Aside0.mk (below_step (be1x10 HB.out GE409.out) hb)
      (try clear hb)
      (try clear hb2)
      (try clear hk)
      (try clear hi)
      refine hK.out _ _ (cc3x10 BK409.out) (fun hHeld => ?_)
      clear hK K
      refine norm_ (a' := ?_) ?_ ?_
      rotate_left
      ·show Act.put _ (some 90) _ = _
       simp only [Act.put, List.setIfInBounds_toArray, List.set_cons_zero, List.set_cons_succ, i64_w, i32_w]
       rfl
      refine one_ (i := 18) (N := some 92) (tf_ 19 21) rfl rfl (one_of HT_.out (by kernel_rfl)) (by decide) (fun K hK => ?_)
      refine goes_ Try.func94 (by kernel_rfl) rfl #[.agg #[.int .i64 t403, .int .i64 t404, .slice Ao12 t405.length co12]] (by rfl) rfl rfl mpx10 ?_
      with_reducible refine (spec_IsBench.calls k t403 t404 _ _ t405 t422 _ ?side1 ?side2 A21.out).mono ?_
      (case side1 => exact cRx10 HO407.out)
      (case side2 => exact (Kd.R_reads' HO407.out).2.1)
      rintro e w26 ⟨rfl, hb⟩
      refine ⟨_, rfl, ?_⟩
      replace HO407 := Aside0.mk (Kd.R_below (rRx10 HO407.out) hb)
      replace HO412 := Aside0.mk (Kd.R_below (rRx10 HO412.out) hb)
      replace HO417 := Aside0.mk (Kd.R_below (rRx10 HO417.out) hb)
      replace BK409 := Aside0.mk (blk_below (rBx10 BK409.out) hb)
      replace HB := Aside0.mk (below_step (be1x10 HB.out GE409.out) hb)
      (try clear hb)
      (try clear hb2)
      (try clear hk)
      (try clear hi)
      refine hK.out _ _ (cc3x10 BK409.out) (fun hHeld => ?_)
      clear hK K
      refine norm_ (a' := ?_) ?_ ?_
      rotate_left
      ·show Act.put _ (some 92) _ = _
       simp only [Act.put, List.setIfInBounds_toArray, List.set_cons_zero, List.set_cons_succ, i64_w, i32_w]
       rfl
      refine pv_ 19 93 (tf_ 20 21) HT_ ?_
      refine pv_ 20 94 (tf_ 21 21) HT_ ?_
      refine done_ (done_of HT_.out (by kernel_rfl)) ?_
      try go_wp2
      go_meet
      case rel => exact ⟨_, ((t421 != t422)), (by first | rfl | (simp; done) | (simp [*]; done)), H', ⟨by first | omega | exact Nat.le_refl _⟩, ⟨by exact rRx10 (Kd.R_mono HO412.out (fun _ hk => hk.2))⟩, ⟨by exact rRx10 (Kd.R_mono HO417.out (fun _ hk => hk.2))⟩, ⟨rRx10 HO407.out⟩, ⟨rBx10 BK409.out⟩, ⟨be1x10 HB.out GE409.out⟩⟩
     ·rw [if_neg c19] at H
      have c19b0 : (t413 == t418) = false := beq_eq_false_iff_ne.mpr c19
      have c19b1 : (t413 != t418) = true := bne_iff_ne.mpr c19
      exact absurd (H.trans (congrArg some hrt.out)) (by generalize k = k_; cases k_ <;> simp [laws_FnDigs.j0])
    ·replace c18 := Bool.eq_false_iff.mpr c18
     subst c18
     have H1 : (laws_FnDigs.j0 k l1 t408 t410 t414 t415 t418 true t403 t404 t405) = some r := by rw [if_neg (show ¬ (false = true) by decide)] at H; exact H
     clear H
     have H := H1
     clear H1
     exact absurd (H.trans (congrArg some hrt.out)) (by generalize k = k_; cases k_ <;> simp [laws_FnDigs.j0])
  case rest =>
   clear HC8
   try clear c1; try clear c4; try clear c16; try clear c16b0; try clear c16b1; try clear c16b2; try clear c18; try clear c19; try clear c19b0; try clear c19b1; try clear hcz11_0 hcz11_1 hcz11_2; try clear hcz14_0 hcz14_1 hcz14_2; try clear hfz11_0 hfz11_1 hfz11_2; try clear hfz14_0 hfz14_1 hfz14_2
   obtain ⟨kq, x94_7, rfl, HA, HJ7, HO_7, HO_10, HO_410002, BK409, HB⟩ := hcut
   cases kq with
   | zero => exact absurd HA.out (by simp [laws_FnDigs.j0])
   | succ kj7 =>
    have H := HA.out
    clear HA
    simp only [laws_FnDigs.j0] at H
    by_cases c27 : x94_7 = true
    ·subst c27
     have H1 : (some false) = some r := by rw [if_pos rfl] at H; exact H
     clear H
     have H := H1
     clear H1
     exact absurd (H.trans (congrArg some hrt.out)) (by simp)
    ·replace c27 := Bool.eq_false_iff.mpr c27
     subst c27
     have H1 : (if t414 = true then ((impl_DigValue.f kj7 t403 t404 t405 t410).bind fun bt423 => ((impl_RowWidth.f kj7 t403 t404 t405 t410).bind fun bt425 => ((impl_LossAndWaste.f kj7 t403 t404 t405 t410).bind fun bt427 => (laws_FnDigs.l0 kj7 l1 t408 t415 t418 bt423.1 bt423.2 bt425.1 bt425.2 bt427.1 bt427.2.1 bt427.2.2 0 t405 (t405.length : Int) 0 t403 t404 t405)))) else (laws_FnDigs.j3 kj7 l1)) = some r := by rw [if_neg (show ¬ (false = true) by decide)] at H; exact H
     clear H
     have H := H1
     clear H1
     have HC28 := Aside0.mk H
     clear H
     go_upto_if 95 with (fail)
     go_cut [] (fun wc => ∃ (kq : Nat), Aside0 (laws_FnDigs.j3 kq l1 = some r) ∧ Aside0 (kq ≤ kj7) ∧ Aside0 (Kd.R (Kd.int .i64) 3 wc w.heap.size (fun _ => True) (.slice Ao12 t405.length co12) t405) ∧ Aside0 (wc.heap[gb409]? = some (.cells #[.int .i64 t403, .int .i64 t404, (.slice Ao12 t405.length co12)] 61 (0, 0))) ∧ Aside0 (Below w.heap.size w wc))
     case first =>
      as_aux_lemma =>
      have H := HC28.out
      clear HC28
      by_cases c29 : t414 = true
      ·subst c29
       have H1 : ((impl_DigValue.f kj7 t403 t404 t405 t410).bind fun bt423 => ((impl_RowWidth.f kj7 t403 t404 t405 t410).bind fun bt425 => ((impl_LossAndWaste.f kj7 t403 t404 t405 t410).bind fun bt427 => (laws_FnDigs.l0 kj7 l1 t408 t415 t418 bt423.1 bt423.2 bt425.1 bt425.2 bt427.1 bt427.2.1 bt427.2.2 0 t405 (t405.length : Int) 0 t403 t404 t405)))) = some r := by rw [if_pos rfl] at H; exact H
       clear H
       have H := H1
       clear H1
       replace H := Option.bind_eq_some_iff.mp H
       obtain ⟨⟨t423, t424⟩, A300, H⟩ := H
       (try dsimp only at H)
       have A30 := Aside0.mk A300
       clear A300
       replace H := Option.bind_eq_some_iff.mp H
       obtain ⟨⟨t425, t426⟩, A310, H⟩ := H
       (try dsimp only at H)
       have A31 := Aside0.mk A310
       clear A310
       replace H := Option.bind_eq_some_iff.mp H
       obtain ⟨⟨t427, t428, t429⟩, A320, H⟩ := H
       (try dsimp only at H)
       have A32 := Aside0.mk A320
       clear A320
       have H' := Aside0.mk H
       clear H
       obtain ⟨hcz33_0, hcz33_1, hcz33_2, hfz33_0, hfz33_1, hfz33_2⟩ := cf3x10 BK409.out
       obtain ⟨Ao34, co34, eo34⟩ := Kd.R_slice HO_7.out
       subst eo34
       go_wp2_with (first | ((with_reducible refine gate_callee (f := 95) rfl ?_); refine goesL_ (some 99) rfl rfl Try.func95 (by kernel_rfl) rfl #[.agg #[.int .i64 t403, .int .i64 t404, .slice Ao12 t405.length co12], .slice Ao34 t410.length co34] rfl mpx10 ?_; (with_reducible refine (impl_DigValue.calls kj7 t403 t404 _ _ t405 _ _ t410 t423 t424 _ ?side1 ?side2 ?side3 ?side4 A30.out).mono ?_); (case side1 => exact cRx10 HO_410002.out); (case side2 => exact (Kd.R_reads' HO_410002.out).2.1); (case side3 => exact cRx10 HO_7.out); (case side4 => exact (Kd.R_reads' HO_7.out).2.1); rintro e w35 ⟨rfl, hb⟩; refine ⟨_, rfl, ?_⟩; replace HO_7 := Aside0.mk (Kd.R_below (rRx10 HO_7.out) hb); replace HO_10 := Aside0.mk (Kd.R_below (rRx10 HO_10.out) hb); replace HO_410002 := Aside0.mk (Kd.R_below (rRx10 HO_410002.out) hb); replace BK409 := Aside0.mk (blk_below (rBx10 BK409.out) hb); replace HB := Aside0.mk (below_step (be1x10 HB.out GE409.out) hb); (try clear hb); (try clear hb2); (try clear hk); (try clear hi); obtain ⟨hcz36_0, hcz36_1, hcz36_2, hfz36_0, hfz36_1, hfz36_2⟩ := cf3x10 BK409.out) | ((with_reducible refine gate_callee (f := 96) rfl ?_); refine goesL_ (some 105) rfl rfl Try.func96 (by kernel_rfl) rfl #[.agg #[.int .i64 t403, .int .i64 t404, .slice Ao12 t405.length co12], .slice Ao34 t410.length co34] rfl mpx10 ?_; (with_reducible refine (impl_RowWidth.calls kj7 t403 t404 _ _ t405 _ _ t410 t425 t426 _ ?side1 ?side2 ?side3 ?side4 A31.out).mono ?_); (case side1 => exact cRx10 HO_410002.out); (case side2 => exact (Kd.R_reads' HO_410002.out).2.1); (case side3 => exact cRx10 HO_7.out); (case side4 => exact (Kd.R_reads' HO_7.out).2.1); rintro e w37 ⟨rfl, hb⟩; refine ⟨_, rfl, ?_⟩; replace HO_7 := Aside0.mk (Kd.R_below (rRx10 HO_7.out) hb); replace HO_10 := Aside0.mk (Kd.R_below (rRx10 HO_10.out) hb); replace HO_410002 := Aside0.mk (Kd.R_below (rRx10 HO_410002.out) hb); replace BK409 := Aside0.mk (blk_below (rBx10 BK409.out) hb); replace HB := Aside0.mk (below_step (be1x10 HB.out GE409.out) hb); (try clear hb); (try clear hb2); (try clear hk); (try clear hi); obtain ⟨hcz38_0, hcz38_1, hcz38_2, hfz38_0, hfz38_1, hfz38_2⟩ := cf3x10 BK409.out) | ((with_reducible refine gate_callee (f := 97) rfl ?_); refine goesL_ (some 111) rfl rfl Try.func97 (by kernel_rfl) rfl #[.agg #[.int .i64 t403, .int .i64 t404, .slice Ao12 t405.length co12], .slice Ao34 t410.length co34] rfl mpx10 ?_; (with_reducible refine (impl_LossAndWaste.calls kj7 t403 t404 _ _ t405 _ _ t410 t427 t428 t429 _ ?side1 ?side2 ?side3 ?side4 A32.out).mono ?_); (case side1 => exact cRx10 HO_410002.out); (case side2 => exact (Kd.R_reads' HO_410002.out).2.1); (case side3 => exact cRx10 HO_7.out); (case side4 => exact (Kd.R_reads' HO_7.out).2.1); rintro e w39 ⟨rfl, hb⟩; refine ⟨_, rfl, ?_⟩; replace HO_7 := Aside0.mk (Kd.R_below (rRx10 HO_7.out) hb); replace HO_10 := Aside0.mk (Kd.R_below (rRx10 HO_10.out) hb); replace HO_410002 := Aside0.mk (Kd.R_below (rRx10 HO_410002.out) hb); replace BK409 := Aside0.mk (blk_below (rBx10 BK409.out) hb); replace HB := Aside0.mk (below_step (be1x10 HB.out GE409.out) hb); (try clear hb); (try clear hb2); (try clear hk); (try clear hi); obtain ⟨hcz40_0, hcz40_1, hcz40_2, hfz40_0, hfz40_1, hfz40_2⟩ := cf3x10 BK409.out))
       go_loopg [20, 118] kj7 (fun kq v20 v118 w' => ∃ (x20_2 : Int) (x118_2 : Int), v20 = .int .i64 x20_2 ∧ v118 = .int .i64 x118_2 ∧ Aside0 (laws_FnDigs.l0 kq l1 t408 t415 t418 t423 t424 t425 t426 t427 t428 t429 x20_2 t405 (t405.length : Int) x118_2 t403 t404 t405 = some r) ∧ Aside0 (kq ≤ kj7) ∧ Aside0 (Kd.R Kd.bool 4 w' w.heap.size (fun _ => True) v416 t415) ∧ Aside0 (Kd.R (Kd.int .i64) 3 w' w.heap.size (fun _ => True) (.slice Ao12 t405.length co12) t405) ∧ Aside0 (Kd.R (Kd.int .i64) 3 w' w.heap.size (fun _ => True) (.slice Ao12 t405.length co12) t405) ∧ Aside0 (w'.heap[gb409]? = some (.cells #[.int .i64 t403, .int .i64 t404, (.slice Ao12 t405.length co12)] 61 (0, 0))) ∧ Aside0 (Below w.heap.size w w'))
       case atStart => exact ⟨(0), (0), (by first | rfl | (simp; done) | (simp [*]; done)), (by first | rfl | (simp; done) | (simp [*]; done)), H', ⟨Nat.le_refl _⟩, ⟨by exact rRx10 (Kd.R_mono HO_10.out (fun _ hk => trivial))⟩, ⟨rRx10 HO_410002.out⟩, ⟨rRx10 HO_410002.out⟩, ⟨rBx10 BK409.out⟩, ⟨be1x10 HB.out GE409.out⟩⟩
       case round =>
        as_aux_lemma =>
        clear H'
        try clear c27; try clear c29; try clear hcz33_0 hcz33_1 hcz33_2; try clear hcz36_0 hcz36_1 hcz36_2; try clear hcz38_0 hcz38_1 hcz38_2; try clear hcz40_0 hcz40_1 hcz40_2; try clear hfz33_0 hfz33_1 hfz33_2; try clear hfz36_0 hfz36_1 hfz36_2; try clear hfz38_0 hfz38_1 hfz38_2; try clear hfz40_0 hfz40_1 hfz40_2
        obtain ⟨x20_2, x118_2, rfl, rfl, HA, HK2, HO_10, HO_116, HO_410002, BK409, HB⟩ := hrel
        cases gk with
        | zero => exact absurd HA.out (by simp [laws_FnDigs.l0])
        | succ k2 =>
         have H := HA.out
         clear HA
         simp only [laws_FnDigs.l0] at H
         by_cases c41 : x118_2 < (t405.length : Int)
         ·rw [if_pos c41] at H
          have c41b0 : decide (x118_2 < (t405.length : Int)) = true := decide_eq_true c41
          clear c41
          (first | rw [c41b0] | (simp only [i64_w, i32_w]; rw [c41b0]) | skip)
          by_cases c42 : 0 ≤ x118_2
          ·rw [if_pos c42] at H
           have c42b0 : decide (0 ≤ x118_2) = true := decide_eq_true c42
           clear c42
           by_cases c43 : x118_2 < (t405.length : Int)
           ·rw [if_pos c43] at H
            have c43b0 : decide (x118_2 < (t405.length : Int)) = true := decide_eq_true c43
            clear c43
            by_cases c44 : (rd t405 x118_2) > 0
            ·rw [if_pos c44] at H
             have c44b0 : decide (0 < (rd t405 x118_2)) = true := decide_eq_true c44
             clear c44
             have H' := Aside0.mk H
             clear H
             have p430 : 0 ≤ (x118_2 : Int) := of_decide_eq_true (by first | (with_reducible assumption) | assumption)
             have q430 : x118_2 < (t405.length : Int) := of_decide_eq_true (by first | (with_reducible assumption) | assumption)
             obtain ⟨ad430, e430, hx430_0⟩ := Kd.at_int (Kd.R_reads' HO_116.out).2.2 x118_2 p430 q430
             cases e430
             replace p430 := eq_true p430
             replace q430 := eq_true q430
             go_wp2
             go_roundg k2
             case measure => have := HJ7.out; have := HK2.out; omega
             case rel => exact ⟨(wrap64 (x20_2 + (rd t405 x118_2))), (wrap64 (x118_2 + 1)), (by first | rfl | (simp; done) | (simp [*]; done)), (by first | rfl | (simp; done) | (simp [*]; done)), H', ⟨by have := HJ7.out; have := HK2.out; omega⟩, ⟨rRx10 HO_10.out⟩, ⟨rRx10 HO_116.out⟩, ⟨rRx10 HO_410002.out⟩, ⟨rBx10 BK409.out⟩, ⟨be1x10 HB.out GE409.out⟩⟩
            ·rw [if_neg c44] at H
             have c44b0 : decide (0 < (rd t405 x118_2)) = false := decide_eq_false c44
             clear c44
             have H' := Aside0.mk H
             clear H
             have p430 : 0 ≤ (x118_2 : Int) := of_decide_eq_true (by first | (with_reducible assumption) | assumption)
             have q430 : x118_2 < (t405.length : Int) := of_decide_eq_true (by first | (with_reducible assumption) | assumption)
             obtain ⟨ad430, e430, hx430_0⟩ := Kd.at_int (Kd.R_reads' HO_116.out).2.2 x118_2 p430 q430
             cases e430
             replace p430 := eq_true p430
             replace q430 := eq_true q430
             go_wp2
             go_roundg k2
             case measure => have := HJ7.out; have := HK2.out; omega
             case rel => exact ⟨(x20_2), (wrap64 (x118_2 + 1)), (by first | rfl | (simp; done) | (simp [*]; done)), (by first | rfl | (simp; done) | (simp [*]; done)), H', ⟨by have := HJ7.out; have := HK2.out; omega⟩, ⟨rRx10 HO_10.out⟩, ⟨rRx10 HO_116.out⟩, ⟨rRx10 HO_410002.out⟩, ⟨rBx10 BK409.out⟩, ⟨be1x10 HB.out GE409.out⟩⟩
           ·rw [if_neg c43] at H
            exact absurd H (by simp)
          ·rw [if_neg c42] at H
           exact absurd H (by simp)
         ·rw [if_neg c41] at H
          have c41b0 : decide (x118_2 < (t405.length : Int)) = false := decide_eq_false c41
          clear c41
          (first | rw [c41b0] | (simp only [i64_w, i32_w]; rw [c41b0]) | skip)
          have HC45 := Aside0.mk H
          clear H
          go_upto_region 19 with (fail)
          go_cut [166] (fun v166 wc => ∃ (kq : Nat) (x166_44 : Bool), v166 = .bool x166_44 ∧ Aside0 (laws_FnDigs.j2 kq l1 t408 t418 x166_44 t403 t404 t405 = some r) ∧ Aside0 (kq ≤ k2) ∧ Aside0 (Kd.R (Kd.int .i64) 3 wc w.heap.size (fun _ => True) (.slice Ao12 t405.length co12) t405) ∧ Aside0 (wc.heap[gb409]? = some (.cells #[.int .i64 t403, .int .i64 t404, (.slice Ao12 t405.length co12)] 61 (0, 0))) ∧ Aside0 (Below w.heap.size w wc))
          case first =>
           as_aux_lemma =>
           have H := HC45.out
           clear HC45
           by_cases c46 : t424 = true
           ·subst c46
            have H1 : (if t423 = t418 then (if t418 < 0 then (laws_FnDigs.j2 k2 l1 t408 t418 true t403 t404 t405) else (if t426 = true then (if t425 < t408 then (laws_FnDigs.j2 k2 l1 t408 t418 true t403 t404 t405) else ((laws_pCount.f k2 t415).bind fun t431 => (if (t426 != (decide (t431 > 0))) = true then (laws_FnDigs.j2 k2 l1 t408 t418 true t403 t404 t405) else (if t429 = true then (laws_FnDigs.j2 k2 l1 t408 t418 ((wrap64 ((wrap64 (x20_2 - t427)) - t428)) != t418) t403 t404 t405) else (laws_FnDigs.j2 k2 l1 t408 t418 true t403 t404 t405))))) else ((laws_pCount.f k2 t415).bind fun t432 => (if (t426 != (decide (t432 > 0))) = true then (laws_FnDigs.j2 k2 l1 t408 t418 true t403 t404 t405) else (if t429 = true then (laws_FnDigs.j2 k2 l1 t408 t418 ((wrap64 ((wrap64 (x20_2 - t427)) - t428)) != t418) t403 t404 t405) else (laws_FnDigs.j2 k2 l1 t408 t418 true t403 t404 t405)))))) else (laws_FnDigs.j2 k2 l1 t408 t418 true t403 t404 t405)) = some r := by rw [if_pos rfl] at H; exact H
            clear H
            have H := H1
            clear H1
            by_cases c47 : t423 = t418
            ·rw [if_pos c47] at H
             have c47b0 : (t423 == t418) = true := beq_iff_eq.mpr c47
             have c47b1 : (t423 != t418) = false := bne_eq_false_iff_eq.mpr c47
             clear c47
             (first | rw [c47b0] | (simp only [i64_w, i32_w]; rw [c47b0]) | skip)
             by_cases c48 : t418 < 0
             ·rw [if_pos c48] at H
              have c48b0 : decide (t418 < 0) = true := decide_eq_true c48
              clear c48
              exact absurd (H.trans (congrArg some hrt.out)) (by generalize k2 = k_; cases k_ <;> simp [laws_FnDigs.j2])
             ·rw [if_neg c48] at H
              have c48b0 : decide (t418 < 0) = false := decide_eq_false c48
              clear c48
              by_cases c49 : t426 = true
              ·subst c49
               have H1 : (if t425 < t408 then (laws_FnDigs.j2 k2 l1 t408 t418 true t403 t404 t405) else ((laws_pCount.f k2 t415).bind fun t431 => (if (true != (decide (t431 > 0))) = true then (laws_FnDigs.j2 k2 l1 t408 t418 true t403 t404 t405) else (if t429 = true then (laws_FnDigs.j2 k2 l1 t408 t418 ((wrap64 ((wrap64 (x20_2 - t427)) - t428)) != t418) t403 t404 t405) else (laws_FnDigs.j2 k2 l1 t408 t418 true t403 t404 t405))))) = some r := by rw [if_pos rfl] at H; exact H
               clear H
               have H := H1
               clear H1
               by_cases c50 : t425 < t408
               ·rw [if_pos c50] at H
                have c50b0 : decide (t425 < t408) = true := decide_eq_true c50
                clear c50
                exact absurd (H.trans (congrArg some hrt.out)) (by generalize k2 = k_; cases k_ <;> simp [laws_FnDigs.j2])
               ·rw [if_neg c50] at H
                have c50b0 : decide (t425 < t408) = false := decide_eq_false c50
                clear c50
                replace H := Option.bind_eq_some_iff.mp H
                obtain ⟨t431, A510, H⟩ := H
                have A51 := Aside0.mk A510
                clear A510
                by_cases c52 : (true != (decide (t431 > 0))) = true
                ·rw [if_pos c52] at H
                 have c52b0 : (true != (decide (t431 > 0))) = true := c52
                 (try (have c52b1 : decide (true = (decide (t431 > 0))) = false := by simpa using c52))
                 (try (have c52b2 : (true == (decide (t431 > 0))) = false := by simpa using c52))
                 (try (have c52b3 : ¬ (true = (decide (t431 > 0))) := by simpa using c52))
                 clear c52
                 exact absurd (H.trans (congrArg some hrt.out)) (by generalize k2 = k_; cases k_ <;> simp [laws_FnDigs.j2])
                ·rw [if_neg c52] at H
                 have c52b0 : (true != (decide (t431 > 0))) = false := by simpa using c52
                 (try (have c52b1 : decide (true = (decide (t431 > 0))) = true := by simpa using c52))
                 (try (have c52b2 : (true == (decide (t431 > 0))) = true := by simpa using c52))
                 clear c52
                 by_cases c53 : t429 = true
                 ·subst c53
                  have H1 : (laws_FnDigs.j2 k2 l1 t408 t418 ((wrap64 ((wrap64 (x20_2 - t427)) - t428)) != t418) t403 t404 t405) = some r := by rw [if_pos rfl] at H; exact H
                  clear H
                  have H := H1
                  clear H1
                  have H' := Aside0.mk H
                  clear H
                  obtain ⟨Ao54, co54, eo54⟩ := Kd.R_slice HO_10.out
                  subst eo54
                  go_wp2_with (first | (go_at_call 56; (with_reducible refine (laws_pCount.calls k2 _ _ t415 t431 _ ?side1 ?side2 A51.out).mono ?_); (case side1 => exact cRx10 HO_10.out); (case side2 => exact (Kd.R_reads' HO_10.out).2.1); rintro e w' ⟨rfl, ⟨nd, rfl⟩⟩))
                  go_meet
                  case rel => exact ⟨_, (((wrap64 ((wrap64 (x20_2 - t427)) - t428)) != t418)), (by first | rfl | (simp; done) | (simp [*]; done)), H', ⟨by have := HJ7.out; have := HK2.out; first | omega | exact Nat.le_refl _⟩, ⟨rRx10 HO_410002.out⟩, ⟨rBx10 BK409.out⟩, ⟨be1x10 HB.out GE409.out⟩⟩
                 ·replace c53 := Bool.eq_false_iff.mpr c53
                  subst c53
                  have H1 : (laws_FnDigs.j2 k2 l1 t408 t418 true t403 t404 t405) = some r := by rw [if_neg (show ¬ (false = true) by decide)] at H; exact H
                  clear H
                  have H := H1
                  clear H1
                  exact absurd (H.trans (congrArg some hrt.out)) (by generalize k2 = k_; cases k_ <;> simp [laws_FnDigs.j2])
              ·replace c49 := Bool.eq_false_iff.mpr c49
               subst c49
               have H1 : ((laws_pCount.f k2 t415).bind fun t432 => (if (false != (decide (t432 > 0))) = true then (laws_FnDigs.j2 k2 l1 t408 t418 true t403 t404 t405) else (if t429 = true then (laws_FnDigs.j2 k2 l1 t408 t418 ((wrap64 ((wrap64 (x20_2 - t427)) - t428)) != t418) t403 t404 t405) else (laws_FnDigs.j2 k2 l1 t408 t418 true t403 t404 t405)))) = some r := by rw [if_neg (show ¬ (false = true) by decide)] at H; exact H
               clear H
               have H := H1
               clear H1
               replace H := Option.bind_eq_some_iff.mp H
               obtain ⟨t432, A550, H⟩ := H
               have A55 := Aside0.mk A550
               clear A550
               by_cases c56 : (false != (decide (t432 > 0))) = true
               ·rw [if_pos c56] at H
                have c56b0 : (false != (decide (t432 > 0))) = true := c56
                (try (have c56b1 : decide (false = (decide (t432 > 0))) = false := by simpa using c56))
                (try (have c56b2 : (false == (decide (t432 > 0))) = false := by simpa using c56))
                (try (have c56b3 : ¬ (false = (decide (t432 > 0))) := by simpa using c56))
                clear c56
                exact absurd (H.trans (congrArg some hrt.out)) (by generalize k2 = k_; cases k_ <;> simp [laws_FnDigs.j2])
               ·rw [if_neg c56] at H
                have c56b0 : (false != (decide (t432 > 0))) = false := by simpa using c56
                (try (have c56b1 : decide (false = (decide (t432 > 0))) = true := by simpa using c56))
                (try (have c56b2 : (false == (decide (t432 > 0))) = true := by simpa using c56))
                clear c56
                by_cases c57 : t429 = true
                ·subst c57
                 have H1 : (laws_FnDigs.j2 k2 l1 t408 t418 ((wrap64 ((wrap64 (x20_2 - t427)) - t428)) != t418) t403 t404 t405) = some r := by rw [if_pos rfl] at H; exact H
                 clear H
                 have H := H1
                 clear H1
                 have H' := Aside0.mk H
                 clear H
                 obtain ⟨Ao58, co58, eo58⟩ := Kd.R_slice HO_10.out
                 subst eo58
                 go_wp2_with (first | (go_at_call 56; (with_reducible refine (laws_pCount.calls k2 _ _ t415 t432 _ ?side1 ?side2 A55.out).mono ?_); (case side1 => exact cRx10 HO_10.out); (case side2 => exact (Kd.R_reads' HO_10.out).2.1); rintro e w' ⟨rfl, ⟨nd, rfl⟩⟩))
                 go_meet
                 case rel => exact ⟨_, (((wrap64 ((wrap64 (x20_2 - t427)) - t428)) != t418)), (by first | rfl | (simp; done) | (simp [*]; done)), H', ⟨by have := HJ7.out; have := HK2.out; first | omega | exact Nat.le_refl _⟩, ⟨rRx10 HO_410002.out⟩, ⟨rBx10 BK409.out⟩, ⟨be1x10 HB.out GE409.out⟩⟩
                ·replace c57 := Bool.eq_false_iff.mpr c57
                 subst c57
                 have H1 : (laws_FnDigs.j2 k2 l1 t408 t418 true t403 t404 t405) = some r := by rw [if_neg (show ¬ (false = true) by decide)] at H; exact H
                 clear H
                 have H := H1
                 clear H1
                 exact absurd (H.trans (congrArg some hrt.out)) (by generalize k2 = k_; cases k_ <;> simp [laws_FnDigs.j2])
            ·rw [if_neg c47] at H
             have c47b0 : (t423 == t418) = false := beq_eq_false_iff_ne.mpr c47
             have c47b1 : (t423 != t418) = true := bne_iff_ne.mpr c47
             (first | rw [c47b0] | (simp only [i64_w, i32_w]; rw [c47b0]) | skip)
             exact absurd (H.trans (congrArg some hrt.out)) (by generalize k2 = k_; cases k_ <;> simp [laws_FnDigs.j2])
           ·replace c46 := Bool.eq_false_iff.mpr c46
            subst c46
            have H1 : (laws_FnDigs.j2 k2 l1 t408 t418 true t403 t404 t405) = some r := by rw [if_neg (show ¬ (false = true) by decide)] at H; exact H
            clear H
            have H := H1
            clear H1
            exact absurd (H.trans (congrArg some hrt.out)) (by generalize k2 = k_; cases k_ <;> simp [laws_FnDigs.j2])
          case rest =>
           clear HC45
           try clear c41; try clear c41b0; try clear c42; try clear c42b0; try clear c43; try clear c43b0; try clear c44; try clear c44b0; try clear c46; try clear c47; try clear c47b0; try clear c47b1; try clear c48; try clear c48b0; try clear c49; try clear c50; try clear c50b0; try clear c52; try clear c52b0; try clear c52b1; try clear c52b2; try clear c53; try clear c56; try clear c56b0; try clear c56b1; try clear c56b2; try clear c57; try clear hx430_0; try clear p430; try clear q430
           obtain ⟨kq, x166_44, rfl, HA, HJ44, HO_410002, BK409, HB⟩ := hcut
           cases kq with
           | zero => exact absurd HA.out (by simp [laws_FnDigs.j2])
           | succ kj44 =>
            have H := HA.out
            clear HA
            simp only [laws_FnDigs.j2] at H
            by_cases c59 : x166_44 = true
            ·subst c59
             have H1 : (some false) = some r := by rw [if_pos rfl] at H; exact H
             clear H
             have H := H1
             clear H1
             exact absurd (H.trans (congrArg some hrt.out)) (by simp)
            ·replace c59 := Bool.eq_false_iff.mpr c59
             subst c59
             have H1 : ((impl_BestDig.f kj44 t403 t404 t405 (wrap64 (t408 + 1))).bind fun bt433 => (if t408 < 8 then (if bt433.2.2 = true then (if bt433.2.1 > t418 then (some false) else (laws_FnDigs.j3 kj44 l1)) else (some false)) else (laws_FnDigs.j3 kj44 l1))) = some r := by rw [if_neg (show ¬ (false = true) by decide)] at H; exact H
             clear H
             have H := H1
             clear H1
             replace H := Option.bind_eq_some_iff.mp H
             obtain ⟨⟨t433, t436, t437⟩, A600, H⟩ := H
             (try dsimp only at H)
             have A60 := Aside0.mk A600
             clear A600
             by_cases c61 : t408 < 8
             ·rw [if_pos c61] at H
              have c61b0 : decide (t408 < 8) = true := decide_eq_true c61
              clear c61
              by_cases c62 : t437 = true
              ·subst c62
               have H1 : (if t436 > t418 then (some false) else (laws_FnDigs.j3 kj44 l1)) = some r := by rw [if_pos rfl] at H; exact H
               clear H
               have H := H1
               clear H1
               by_cases c63 : t436 > t418
               ·rw [if_pos c63] at H
                have c63b0 : decide (t418 < t436) = true := decide_eq_true c63
                clear c63
                exact absurd (H.trans (congrArg some hrt.out)) (by simp)
               ·rw [if_neg c63] at H
                have c63b0 : decide (t418 < t436) = false := decide_eq_false c63
                clear c63
                have H' := Aside0.mk H
                clear H
                obtain ⟨hcz64_0, hcz64_1, hcz64_2, hfz64_0, hfz64_1, hfz64_2⟩ := cf3x10 BK409.out
                go_wp2_with (first | ((with_reducible refine gate_callee (f := 91) rfl ?_); refine goesL_ (some 171) rfl rfl Try.func91 (by kernel_rfl) rfl #[.agg #[.int .i64 t403, .int .i64 t404, .slice Ao12 t405.length co12], .int .i64 (wrap64 (t408 + 1))] rfl mpx10 ?_; (with_reducible refine (impl_BestDig.calls kj44 t403 t404 _ _ t405 (wrap64 (t408 + 1)) t433 t436 true _ ?side1 ?side2 A60.out).mono ?_); (case side1 => exact cRx10 HO_410002.out); (case side2 => exact (Kd.R_reads' HO_410002.out).2.1); rintro e w65 ⟨v434, rfl, ho0, hb⟩; refine ⟨_, rfl, ?_⟩; replace HO_410002 := Aside0.mk (Kd.R_below (rRx10 HO_410002.out) hb); have HO435 := Aside0.mk (Kd.R_lower ho0 (below_size (be1x10 HB.out GE409.out))); replace BK409 := Aside0.mk (blk_below (rBx10 BK409.out) hb); replace HB := Aside0.mk (below_step (be1x10 HB.out GE409.out) hb); (try clear hb); (try clear hb2); (try clear hk); (try clear hi); (try clear ho0)))
                go_meet
                case rel => exact ⟨_, H', ⟨by have := HJ7.out; have := HK2.out; have := HJ44.out; first | omega | exact Nat.le_refl _⟩, ⟨rRx10 HO_410002.out⟩, ⟨rBx10 BK409.out⟩, ⟨be1x10 HB.out GE409.out⟩⟩
              ·replace c62 := Bool.eq_false_iff.mpr c62
               subst c62
               have H1 : (some false) = some r := by rw [if_neg (show ¬ (false = true) by decide)] at H; exact H
               clear H
               have H := H1
               clear H1
               exact absurd (H.trans (congrArg some hrt.out)) (by simp)
             ·rw [if_neg c61] at H
              have c61b0 : decide (t408 < 8) = false := decide_eq_false c61
              clear c61
              have H' := Aside0.mk H
              clear H
              obtain ⟨hcz66_0, hcz66_1, hcz66_2, hfz66_0, hfz66_1, hfz66_2⟩ := cf3x10 BK409.out
              go_wp2_with (first | ((with_reducible refine gate_callee (f := 91) rfl ?_); refine goesL_ (some 171) rfl rfl Try.func91 (by kernel_rfl) rfl #[.agg #[.int .i64 t403, .int .i64 t404, .slice Ao12 t405.length co12], .int .i64 (wrap64 (t408 + 1))] rfl mpx10 ?_; (with_reducible refine (impl_BestDig.calls kj44 t403 t404 _ _ t405 (wrap64 (t408 + 1)) t433 t436 t437 _ ?side1 ?side2 A60.out).mono ?_); (case side1 => exact cRx10 HO_410002.out); (case side2 => exact (Kd.R_reads' HO_410002.out).2.1); rintro e w67 ⟨v434, rfl, ho0, hb⟩; refine ⟨_, rfl, ?_⟩; replace HO_410002 := Aside0.mk (Kd.R_below (rRx10 HO_410002.out) hb); have HO435 := Aside0.mk (Kd.R_lower ho0 (below_size (be1x10 HB.out GE409.out))); replace BK409 := Aside0.mk (blk_below (rBx10 BK409.out) hb); replace HB := Aside0.mk (below_step (be1x10 HB.out GE409.out) hb); (try clear hb); (try clear hb2); (try clear hk); (try clear hi); (try clear ho0)))
              go_meet
              case rel => exact ⟨_, H', ⟨by have := HJ7.out; have := HK2.out; have := HJ44.out; first | omega | exact Nat.le_refl _⟩, ⟨rRx10 HO_410002.out⟩, ⟨rBx10 BK409.out⟩, ⟨be1x10 HB.out GE409.out⟩⟩
      ·replace c29 := Bool.eq_false_iff.mpr c29
       subst c29
       have H1 : (laws_FnDigs.j3 kj7 l1) = some r := by rw [if_neg (show ¬ (false = true) by decide)] at H; exact H
       clear H
       have H := H1
       clear H1
       have H' := Aside0.mk H
       clear H
       go_wp2
       go_meet
       case rel => exact ⟨_, H', ⟨by have := HJ7.out; first | omega | exact Nat.le_refl _⟩, ⟨rRx10 HO_410002.out⟩, ⟨rBx10 BK409.out⟩, ⟨be1x10 HB.out GE409.out⟩⟩
     case rest =>
      clear HC28
      try clear c27; try clear c29; try clear c41; try clear c41b0; try clear c42; try clear c42b0; try clear c43; try clear c43b0; try clear c44; try clear c44b0; try clear c46; try clear c47; try clear c47b0; try clear c47b1; try clear c48; try clear c48b0; try clear c49; try clear c50; try clear c50b0; try clear c52; try clear c52b0; try clear c52b1; try clear c52b2; try clear c53; try clear c56; try clear c56b0; try clear c56b1; try clear c56b2; try clear c57; try clear c59; try clear c61; try clear c61b0; try clear c62; try clear c63; try clear c63b0; try clear hcz33_0 hcz33_1 hcz33_2; try clear hcz36_0 hcz36_1 hcz36_2; try clear hcz38_0 hcz38_1 hcz38_2; try clear hcz40_0 hcz40_1 hcz40_2; try clear hcz64_0 hcz64_1 hcz64_2; try clear hcz66_0 hcz66_1 hcz66_2; try clear hfz33_0 hfz33_1 hfz33_2; try clear hfz36_0 hfz36_1 hfz36_2; try clear hfz38_0 hfz38_1 hfz38_2; try clear hfz40_0 hfz40_1 hfz40_2; try clear hfz64_0 hfz64_1 hfz64_2; try clear hfz66_0 hfz66_1 hfz66_2; try clear hx430_0; try clear p430; try clear q430
      obtain ⟨kq, HA, HJ27, HO_410002, BK409, HB⟩ := hcut
      cases kq with
      | zero => exact absurd HA.out (by simp [laws_FnDigs.j3])
      | succ kj27 =>
       have H := HA.out
       clear HA
       simp only [laws_FnDigs.j3] at H
       replace H := Option.bind_eq_some_iff.mp H
       obtain ⟨⟨t438, t439⟩, A680, H⟩ := H
       (try dsimp only at H)
       have A68 := Aside0.mk A680
       clear A680
       replace H := Option.bind_eq_some_iff.mp H
       obtain ⟨⟨t442, t443, t444⟩, A690, H⟩ := H
       (try dsimp only at H)
       have A69 := Aside0.mk A690
       clear A690
       replace H := Option.bind_eq_some_iff.mp H
       obtain ⟨⟨t447, t448, t449⟩, A700, H⟩ := H
       (try dsimp only at H)
       have A70 := Aside0.mk A700
       clear A700
       replace H := Option.bind_eq_some_iff.mp H
       obtain ⟨⟨t452, t453, t454, t457⟩, A710, H⟩ := H
       (try dsimp only at H)
       have A71 := Aside0.mk A710
       clear A710
       replace H := Option.bind_eq_some_iff.mp H
       obtain ⟨⟨t461, t462, t463⟩, A720, H⟩ := H
       (try dsimp only at H)
       have A72 := Aside0.mk A720
       clear A720
       replace H := Option.bind_eq_some_iff.mp H
       obtain ⟨⟨t464, t465, t466⟩, A730, H⟩ := H
       (try dsimp only at H)
       have A73 := Aside0.mk A730
       clear A730
       replace H := Option.bind_eq_some_iff.mp H
       obtain ⟨⟨t467, t468, t469, t472⟩, A740, H⟩ := H
       (try dsimp only at H)
       have A74 := Aside0.mk A740
       clear A740
       replace H := Option.bind_eq_some_iff.mp H
       obtain ⟨⟨t476, t477⟩, A750, H⟩ := H
       (try dsimp only at H)
       have A75 := Aside0.mk A750
       clear A750
       replace H := Option.bind_eq_some_iff.mp H
       obtain ⟨⟨t478, t479⟩, A760, H⟩ := H
       (try dsimp only at H)
       have A76 := Aside0.mk A760
       clear A760
       replace H := Option.bind_eq_some_iff.mp H
       obtain ⟨⟨t480, t481⟩, A770, H⟩ := H
       (try dsimp only at H)
       have A77 := Aside0.mk A770
       clear A770
       replace H := Option.bind_eq_some_iff.mp H
       obtain ⟨⟨t482, t483⟩, A780, H⟩ := H
       (try dsimp only at H)
       have A78 := Aside0.mk A780
       clear A780
       by_cases c79 : (t444 == t449) = true
       ·rw [if_pos c79] at H
        have c79b0 : (t444 == t449) = true := c79
        (try (have c79b1 : decide (t444 = t449) = true := by simpa using c79))
        (try (have c79b2 : (t444 == t449) = true := by simpa using c79))
        clear c79
        replace H := Option.bind_eq_some_iff.mp H
        obtain ⟨t484, A800, H⟩ := H
        have A80 := Aside0.mk A800
        clear A800
        by_cases c81 : t484 = true
        ·subst c81
         have H1 : (if t443 = t448 then (if (t463 == t466) = true then (if t461 = t464 then (if t462 = t465 then (if (t477 == t479) = true then (if t476 = t478 then (if (t481 == t483) = true then (some (t480 == t482)) else (some false)) else (some false)) else (some false)) else (some false)) else (some false)) else (some false)) else (some false)) = some r := by rw [if_pos rfl] at H; exact H
         clear H
         have H := H1
         clear H1
         by_cases c82 : t443 = t448
         ·rw [if_pos c82] at H
          have c82b0 : (t443 == t448) = true := beq_iff_eq.mpr c82
          have c82b1 : (t443 != t448) = false := bne_eq_false_iff_eq.mpr c82
          clear c82
          by_cases c83 : (t463 == t466) = true
          ·rw [if_pos c83] at H
           have c83b0 : (t463 == t466) = true := c83
           (try (have c83b1 : decide (t463 = t466) = true := by simpa using c83))
           (try (have c83b2 : (t463 == t466) = true := by simpa using c83))
           clear c83
           by_cases c84 : t461 = t464
           ·rw [if_pos c84] at H
            have c84b0 : (t461 == t464) = true := beq_iff_eq.mpr c84
            have c84b1 : (t461 != t464) = false := bne_eq_false_iff_eq.mpr c84
            clear c84
            by_cases c85 : t462 = t465
            ·rw [if_pos c85] at H
             have c85b0 : (t462 == t465) = true := beq_iff_eq.mpr c85
             have c85b1 : (t462 != t465) = false := bne_eq_false_iff_eq.mpr c85
             clear c85
             by_cases c86 : (t477 == t479) = true
             ·rw [if_pos c86] at H
              have c86b0 : (t477 == t479) = true := c86
              (try (have c86b1 : decide (t477 = t479) = true := by simpa using c86))
              (try (have c86b2 : (t477 == t479) = true := by simpa using c86))
              clear c86
              by_cases c87 : t476 = t478
              ·rw [if_pos c87] at H
               have c87b0 : (t476 == t478) = true := beq_iff_eq.mpr c87
               have c87b1 : (t476 != t478) = false := bne_eq_false_iff_eq.mpr c87
               clear c87
               by_cases c88 : (t481 == t483) = true
               ·rw [if_pos c88] at H
                have c88b0 : (t481 == t483) = true := c88
                (try (have c88b1 : decide (t481 = t483) = true := by simpa using c88))
                (try (have c88b2 : (t481 == t483) = true := by simpa using c88))
                clear c88
                obtain rfl := Option.some.inj H
                go_wp2_with (first | ((with_reducible refine gate_callee (f := 98) rfl ?_); refine goesL_ (some 188) rfl rfl Try.func98 (by kernel_rfl) rfl #[.slice A1 l1.length c1] rfl mpx10 ?_; (with_reducible refine (spec_DrawBestRow.calls kj27 _ _ l1 t438 t439 _ ?side1 ?side2 A68.out).mono ?_); (case side1 => exact rCx10 (Kd.C_below HR1.out HB.out)); (case side2 => exact HC1.out); rintro e w89 ⟨v440, rfl, ho0, hb⟩; refine ⟨_, rfl, ?_⟩; have HO441 := Aside0.mk (Kd.R_lower (nwx10 ho0 (rRx10 HO_410002.out)) (below_size (be1x10 HB.out GE409.out))); replace HO_410002 := Aside0.mk (Kd.R_elder' (rRx10 HO_410002.out) (Kd.R_base ho0) hb); replace BK409 := Aside0.mk (blk_below (rBx10 BK409.out) hb); replace HB := Aside0.mk (below_step (be1x10 HB.out GE409.out) hb); (try clear hb); (try clear hb2); (try clear hk); (try clear hi); (try clear ho0); obtain ⟨Ao90, co90, eo90⟩ := Kd.R_slice HO441.out; subst eo90) | ((with_reducible refine gate_callee (f := 99) rfl ?_); refine goesL_ (some 194) rfl rfl Try.func99 (by kernel_rfl) rfl #[.slice Ao90 t438.length co90, .int .i64 t439] rfl mpx10 ?_; (with_reducible refine (impl_BestRow.calls kj27 _ _ t438 t439 t442 t443 t444 _ ?side1 ?side2 A69.out).mono ?_); (case side1 => exact cRx10 HO441.out); (case side2 => exact (Kd.R_reads' HO441.out).2.1); rintro e w91 ⟨v445, rfl, ho0, hb⟩; refine ⟨_, rfl, ?_⟩; replace HO_410002 := Aside0.mk (Kd.R_below (rRx10 HO_410002.out) hb); replace HO441 := Aside0.mk (Kd.R_below (rRx10 HO441.out) hb); have HO446 := Aside0.mk (Kd.R_lower ho0 (below_size (be1x10 HB.out GE409.out))); replace BK409 := Aside0.mk (blk_below (rBx10 BK409.out) hb); replace HB := Aside0.mk (below_step (be1x10 HB.out GE409.out) hb); (try clear hb); (try clear hb2); (try clear hk); (try clear hi); (try clear ho0)) | ((with_reducible refine gate_callee (f := 100) rfl ?_); refine goesL_ (some 201) rfl rfl Try.func100 (by kernel_rfl) rfl #[.slice Ao90 t438.length co90, .int .i64 t439] rfl mpx10 ?_; (with_reducible refine (spec_BestRow.calls kj27 _ _ t438 t439 t447 t448 t449 _ ?side1 ?side2 A70.out).mono ?_); (case side1 => exact cRx10 HO441.out); (case side2 => exact (Kd.R_reads' HO441.out).2.1); rintro e w92 ⟨v450, rfl, ho0, hb⟩; refine ⟨_, rfl, ?_⟩; replace HO_410002 := Aside0.mk (Kd.R_below (rRx10 HO_410002.out) hb); replace HO441 := Aside0.mk (Kd.R_below (rRx10 HO441.out) hb); have HO451 := Aside0.mk (Kd.R_lower (nwx10 ho0 (rRx10 HO446.out)) (below_size (be1x10 HB.out GE409.out))); replace HO446 := Aside0.mk (Kd.R_elder' (rRx10 HO446.out) (Kd.R_base ho0) hb); replace BK409 := Aside0.mk (blk_below (rBx10 BK409.out) hb); replace HB := Aside0.mk (below_step (be1x10 HB.out GE409.out) hb); (try clear hb); (try clear hb2); (try clear hk); (try clear hi); (try clear ho0)) | ((with_reducible refine gate_callee (f := 101) rfl ?_); refine goesL_ (some 207) rfl rfl Try.func101 (by kernel_rfl) rfl #[.slice A1 l1.length c1] rfl mpx10 ?_; (with_reducible refine (spec_DrawLossAndWaste.calls kj27 _ _ l1 t452 t453 t454 t457 _ ?side1 ?side2 A71.out).mono ?_); (case side1 => exact rCx10 (Kd.C_below HR1.out HB.out)); (case side2 => exact HC1.out); rintro e w93 ⟨v455, v458, rfl, ho0, ho1, hb⟩; refine ⟨_, rfl, ?_⟩; have HO456 := Aside0.mk (Kd.R_lower (nwx10 (nwx10 ho0 (rRx10 HO_410002.out)) (rRx10 HO441.out)) (below_size (be1x10 HB.out GE409.out))); replace HO_410002 := Aside0.mk (Kd.R_elder' (rRx10 HO_410002.out) (Kd.R_base ho0) hb); replace HO441 := Aside0.mk (Kd.R_elder' (rRx10 HO441.out) (Kd.R_base ho0) hb); have HO459 := Aside0.mk (Kd.R_lower (nwx10 (nwx10 ho1 (rRx10 HO446.out)) (rRx10 HO451.out)) (below_size (be1x10 HB.out GE409.out))); replace HO446 := Aside0.mk (Kd.R_elder' (rRx10 HO446.out) (Kd.R_base ho1) hb); replace HO451 := Aside0.mk (Kd.R_elder' (rRx10 HO451.out) (Kd.R_base ho1) hb); replace BK409 := Aside0.mk (blk_below (rBx10 BK409.out) hb); replace HB := Aside0.mk (below_step (be1x10 HB.out GE409.out) hb); (try clear hb); (try clear hb2); (try clear hk); (try clear hi); (try clear ho0); (try clear ho1)) | ((with_reducible refine gate_dst (N := 34) rfl ?_); refine box_event ?hg (N := 34) ?hd (cs := #[.int .i64 0, .int .i64 0, .slice none 0 0]) (t := 61) ?hr ?_; (case hd => rfl); (case hg => rfl); (case hr => first | (go_simp; done) | (go_simp; rfl)); intro gb460 hg w94 hbox hb; replace HO_410002 := Aside0.mk (Kd.R_below (rRx10 HO_410002.out) hb); replace HO441 := Aside0.mk (Kd.R_below (rRx10 HO441.out) hb); replace HO446 := Aside0.mk (Kd.R_below (rRx10 HO446.out) hb); replace HO451 := Aside0.mk (Kd.R_below (rRx10 HO451.out) hb); replace HO456 := Aside0.mk (Kd.R_below (rRx10 HO456.out) hb); replace HO459 := Aside0.mk (Kd.R_below (rRx10 HO459.out) hb); have BK460 := Aside0.mk (hbox); have GW460 := Aside0.mk ((by rw [hg]; exact (below_size (be1x10 HB.out GE409.out)) : w.heap.size ≤ gb460)); have GE460 := Aside0.mk ((by rw [hg]; exact (below_size (be1x10 HB.out GE409.out)) : w.heap.size ≤ gb460)); replace HB := Aside0.mk (below_step (be1x10 HB.out GE409.out) hb); have NB409_460 := Aside0.mk ((by rw [hg]; exact Nat.ne_of_lt (blk_lt (rBx10 BK409.out)) : gb409 ≠ gb460)); have NB460_409 := Aside0.mk ((by rw [hg]; exact Nat.ne_of_gt (blk_lt (rBx10 BK409.out)) : gb460 ≠ gb409)); replace BK409 := Aside0.mk (blk_below (rBx10 BK409.out) hb); clear hb hbox hg; have hnb95 := NB460_409.out; have hnc95 := NB409_460.out; obtain ⟨hcz96_0, hcz96_1, hcz96_2, hfz96_0, hfz96_1, hfz96_2⟩ := cf3x10 BK460.out; obtain ⟨Ao97, co97, eo97⟩ := Kd.R_slice HO456.out; subst eo97; obtain ⟨Ao98, co98, eo98⟩ := Kd.R_slice HO459.out; subst eo98) | ((with_reducible refine gate_callee (f := 97) rfl ?_); refine goesL_ (some 213) rfl rfl Try.func97 (by kernel_rfl) rfl #[.agg #[.int .i64 t452, .int .i64 t453, .slice Ao97 t454.length co97], .slice Ao98 t457.length co98] rfl mpx10 ?_; (with_reducible refine (impl_LossAndWaste.calls kj27 t452 t453 _ _ t454 _ _ t457 t461 t462 t463 _ ?side1 ?side2 ?side3 ?side4 A72.out).mono ?_); (case side1 => exact cS3x10 HO456.out BK460.out); (case side2 => exact (Kd.R_reads' HO456.out).2.1); (case side3 => exact cS3x10 HO459.out BK460.out); (case side4 => exact (Kd.R_reads' HO459.out).2.1); rintro e w99 ⟨rfl, hb⟩; refine ⟨_, rfl, ?_⟩; replace HO_410002 := Aside0.mk (Kd.R_below (sR3x10 HO_410002.out BK460.out) hb); replace HO441 := Aside0.mk (Kd.R_below (sR3x10 HO441.out BK460.out) hb); replace HO446 := Aside0.mk (Kd.R_below (sR3x10 HO446.out BK460.out) hb); replace HO451 := Aside0.mk (Kd.R_below (sR3x10 HO451.out BK460.out) hb); replace HO456 := Aside0.mk (Kd.R_below (sR3x10 HO456.out BK460.out) hb); replace HO459 := Aside0.mk (Kd.R_below (sR3x10 HO459.out BK460.out) hb); replace BK409 := Aside0.mk (blk_below (bb3x10 BK409.out NB409_460.out) hb); replace BK460 := Aside0.mk (blk_below (g := gb460) (o := .cells #[.int .i64 t452, .int .i64 t453, .slice Ao97 t454.length co97] 61 (0, 0)) (by (with_reducible repeat (first | refine blk_drewN ?_ _ | refine blk_drew ?_ | refine blk_alloc ?_ _)); refine blk_put (cs := #[.int .i64 t452, .int .i64 t453, .slice none 0 0]) ?_ 2 _ rfl; (with_reducible repeat (first | refine blk_drewN ?_ _ | refine blk_drew ?_ | refine blk_alloc ?_ _)); refine blk_put (cs := #[.int .i64 t452, .int .i64 0, .slice none 0 0]) ?_ 1 _ rfl; (with_reducible repeat (first | refine blk_drewN ?_ _ | refine blk_drew ?_ | refine blk_alloc ?_ _)); refine blk_put (cs := #[.int .i64 0, .int .i64 0, .slice none 0 0]) ?_ 0 _ rfl; (with_reducible repeat (first | refine blk_drewN ?_ _ | refine blk_drew ?_ | refine blk_alloc ?_ _)); exact BK460.out) hb); replace HB := Aside0.mk (below_step (be2x10 HB.out GE409.out GE460.out) hb); (try clear hb); (try clear hb2); (try clear hk); (try clear hi); obtain ⟨hcz100_0, hcz100_1, hcz100_2, hfz100_0, hfz100_1, hfz100_2⟩ := cf3x10 BK460.out) | ((with_reducible refine gate_callee (f := 102) rfl ?_); refine goesL_ (some 220) rfl rfl Try.func102 (by kernel_rfl) rfl #[.agg #[.int .i64 t452, .int .i64 t453, .slice Ao97 t454.length co97], .slice Ao98 t457.length co98] rfl mpx10 ?_; (with_reducible refine (spec_LossAndWaste.calls kj27 t452 t453 _ _ t454 _ _ t457 t464 t465 t466 _ ?side1 ?side2 ?side3 ?side4 A73.out).mono ?_); (case side1 => exact cRx10 HO456.out); (case side2 => exact (Kd.R_reads' HO456.out).2.1); (case side3 => exact cRx10 HO459.out); (case side4 => exact (Kd.R_reads' HO459.out).2.1); rintro e w101 ⟨rfl, hb⟩; refine ⟨_, rfl, ?_⟩; replace HO_410002 := Aside0.mk (Kd.R_below (rRx10 HO_410002.out) hb); replace HO441 := Aside0.mk (Kd.R_below (rRx10 HO441.out) hb); replace HO446 := Aside0.mk (Kd.R_below (rRx10 HO446.out) hb); replace HO451 := Aside0.mk (Kd.R_below (rRx10 HO451.out) hb); replace HO456 := Aside0.mk (Kd.R_below (rRx10 HO456.out) hb); replace HO459 := Aside0.mk (Kd.R_below (rRx10 HO459.out) hb); replace BK409 := Aside0.mk (blk_below (rBx10 BK409.out) hb); replace BK460 := Aside0.mk (blk_below (rBx10 BK460.out) hb); replace HB := Aside0.mk (below_step (be2x10 HB.out GE409.out GE460.out) hb); (try clear hb); (try clear hb2); (try clear hk); (try clear hi)) | ((with_reducible refine gate_callee (f := 103) rfl ?_); refine goesL_ (some 226) rfl rfl Try.func103 (by kernel_rfl) rfl #[.slice A1 l1.length c1] rfl mpx10 ?_; (with_reducible refine (spec_DrawRowWidth.calls kj27 _ _ l1 t467 t468 t469 t472 _ ?side1 ?side2 A74.out).mono ?_); (case side1 => exact rCx10 (Kd.C_below HR1.out HB.out)); (case side2 => exact HC1.out); rintro e w102 ⟨v470, v473, rfl, ho0, ho1, hb⟩; refine ⟨_, rfl, ?_⟩; have HO471 := Aside0.mk (Kd.R_lower (nwx10 (nwx10 (nwx10 ho0 (rRx10 HO_410002.out)) (rRx10 HO441.out)) (rRx10 HO456.out)) (below_size (be2x10 HB.out GE409.out GE460.out))); replace HO_410002 := Aside0.mk (Kd.R_elder' (rRx10 HO_410002.out) (Kd.R_base ho0) hb); replace HO441 := Aside0.mk (Kd.R_elder' (rRx10 HO441.out) (Kd.R_base ho0) hb); replace HO456 := Aside0.mk (Kd.R_elder' (rRx10 HO456.out) (Kd.R_base ho0) hb); have HO474 := Aside0.mk (Kd.R_lower (nwx10 (nwx10 (nwx10 ho1 (rRx10 HO446.out)) (rRx10 HO451.out)) (rRx10 HO459.out)) (below_size (be2x10 HB.out GE409.out GE460.out))); replace HO446 := Aside0.mk (Kd.R_elder' (rRx10 HO446.out) (Kd.R_base ho1) hb); replace HO451 := Aside0.mk (Kd.R_elder' (rRx10 HO451.out) (Kd.R_base ho1) hb); replace HO459 := Aside0.mk (Kd.R_elder' (rRx10 HO459.out) (Kd.R_base ho1) hb); replace BK409 := Aside0.mk (blk_below (rBx10 BK409.out) hb); replace BK460 := Aside0.mk (blk_below (rBx10 BK460.out) hb); replace HB := Aside0.mk (below_step (be2x10 HB.out GE409.out GE460.out) hb); (try clear hb); (try clear hb2); (try clear hk); (try clear hi); (try clear ho0); (try clear ho1)) | ((with_reducible refine gate_dst (N := 42) rfl ?_); refine box_event ?hg (N := 42) ?hd (cs := #[.int .i64 0, .int .i64 0, .slice none 0 0]) (t := 61) ?hr ?_; (case hd => rfl); (case hg => rfl); (case hr => first | (go_simp; done) | (go_simp; rfl)); intro gb475 hg w103 hbox hb; replace HO_410002 := Aside0.mk (Kd.R_below (rRx10 HO_410002.out) hb); replace HO441 := Aside0.mk (Kd.R_below (rRx10 HO441.out) hb); replace HO446 := Aside0.mk (Kd.R_below (rRx10 HO446.out) hb); replace HO451 := Aside0.mk (Kd.R_below (rRx10 HO451.out) hb); replace HO456 := Aside0.mk (Kd.R_below (rRx10 HO456.out) hb); replace HO459 := Aside0.mk (Kd.R_below (rRx10 HO459.out) hb); replace HO471 := Aside0.mk (Kd.R_below (rRx10 HO471.out) hb); replace HO474 := Aside0.mk (Kd.R_below (rRx10 HO474.out) hb); have BK475 := Aside0.mk (hbox); have GW475 := Aside0.mk ((by rw [hg]; exact (below_size (be2x10 HB.out GE409.out GE460.out)) : w.heap.size ≤ gb475)); have GE475 := Aside0.mk ((by rw [hg]; exact (below_size (be2x10 HB.out GE409.out GE460.out)) : w.heap.size ≤ gb475)); replace HB := Aside0.mk (below_step (be2x10 HB.out GE409.out GE460.out) hb); have NB409_475 := Aside0.mk ((by rw [hg]; exact Nat.ne_of_lt (blk_lt (rBx10 BK409.out)) : gb409 ≠ gb475)); have NB475_409 := Aside0.mk ((by rw [hg]; exact Nat.ne_of_gt (blk_lt (rBx10 BK409.out)) : gb475 ≠ gb409)); replace BK409 := Aside0.mk (blk_below (rBx10 BK409.out) hb); have NB460_475 := Aside0.mk ((by rw [hg]; exact Nat.ne_of_lt (blk_lt (rBx10 BK460.out)) : gb460 ≠ gb475)); have NB475_460 := Aside0.mk ((by rw [hg]; exact Nat.ne_of_gt (blk_lt (rBx10 BK460.out)) : gb475 ≠ gb460)); replace BK460 := Aside0.mk (blk_below (rBx10 BK460.out) hb); clear hb hbox hg; have hnb104 := NB475_409.out; have hnc104 := NB409_475.out; have hnb105 := NB475_460.out; have hnc105 := NB460_475.out; obtain ⟨hcz106_0, hcz106_1, hcz106_2, hfz106_0, hfz106_1, hfz106_2⟩ := cf3x10 BK475.out; obtain ⟨Ao107, co107, eo107⟩ := Kd.R_slice HO471.out; subst eo107; obtain ⟨Ao108, co108, eo108⟩ := Kd.R_slice HO474.out; subst eo108) | ((with_reducible refine gate_callee (f := 96) rfl ?_); refine goesL_ (some 232) rfl rfl Try.func96 (by kernel_rfl) rfl #[.agg #[.int .i64 t467, .int .i64 t468, .slice Ao107 t469.length co107], .slice Ao108 t472.length co108] rfl mpx10 ?_; (with_reducible refine (impl_RowWidth.calls kj27 t467 t468 _ _ t469 _ _ t472 t476 t477 _ ?side1 ?side2 ?side3 ?side4 A75.out).mono ?_); (case side1 => exact cS3x10 HO471.out BK475.out); (case side2 => exact (Kd.R_reads' HO471.out).2.1); (case side3 => exact cS3x10 HO474.out BK475.out); (case side4 => exact (Kd.R_reads' HO474.out).2.1); rintro e w109 ⟨rfl, hb⟩; refine ⟨_, rfl, ?_⟩; replace HO_410002 := Aside0.mk (Kd.R_below (sR3x10 HO_410002.out BK475.out) hb); replace HO441 := Aside0.mk (Kd.R_below (sR3x10 HO441.out BK475.out) hb); replace HO446 := Aside0.mk (Kd.R_below (sR3x10 HO446.out BK475.out) hb); replace HO451 := Aside0.mk (Kd.R_below (sR3x10 HO451.out BK475.out) hb); replace HO456 := Aside0.mk (Kd.R_below (sR3x10 HO456.out BK475.out) hb); replace HO459 := Aside0.mk (Kd.R_below (sR3x10 HO459.out BK475.out) hb); replace HO471 := Aside0.mk (Kd.R_below (sR3x10 HO471.out BK475.out) hb); replace HO474 := Aside0.mk (Kd.R_below (sR3x10 HO474.out BK475.out) hb); replace BK409 := Aside0.mk (blk_below (bb3x10 BK409.out NB409_475.out) hb); replace BK460 := Aside0.mk (blk_below (bb3x10 BK460.out NB460_475.out) hb); replace BK475 := Aside0.mk (blk_below (g := gb475) (o := .cells #[.int .i64 t467, .int .i64 t468, .slice Ao107 t469.length co107] 61 (0, 0)) (by (with_reducible repeat (first | refine blk_drewN ?_ _ | refine blk_drew ?_ | refine blk_alloc ?_ _)); refine blk_put (cs := #[.int .i64 t467, .int .i64 t468, .slice none 0 0]) ?_ 2 _ rfl; (with_reducible repeat (first | refine blk_drewN ?_ _ | refine blk_drew ?_ | refine blk_alloc ?_ _)); refine blk_put (cs := #[.int .i64 t467, .int .i64 0, .slice none 0 0]) ?_ 1 _ rfl; (with_reducible repeat (first | refine blk_drewN ?_ _ | refine blk_drew ?_ | refine blk_alloc ?_ _)); refine blk_put (cs := #[.int .i64 0, .int .i64 0, .slice none 0 0]) ?_ 0 _ rfl; (with_reducible repeat (first | refine blk_drewN ?_ _ | refine blk_drew ?_ | refine blk_alloc ?_ _)); exact BK475.out) hb); replace HB := Aside0.mk (below_step (be3x10 HB.out GE409.out GE460.out GE475.out) hb); (try clear hb); (try clear hb2); (try clear hk); (try clear hi); obtain ⟨hcz110_0, hcz110_1, hcz110_2, hfz110_0, hfz110_1, hfz110_2⟩ := cf3x10 BK475.out) | ((with_reducible refine gate_callee (f := 104) rfl ?_); refine goesL_ (some 238) rfl rfl Try.func104 (by kernel_rfl) rfl #[.agg #[.int .i64 t467, .int .i64 t468, .slice Ao107 t469.length co107], .slice Ao108 t472.length co108] rfl mpx10 ?_; (with_reducible refine (spec_RowWidth.calls kj27 t467 t468 _ _ t469 _ _ t472 t478 t479 _ ?side1 ?side2 ?side3 ?side4 A76.out).mono ?_); (case side1 => exact cRx10 HO471.out); (case side2 => exact (Kd.R_reads' HO471.out).2.1); (case side3 => exact cRx10 HO474.out); (case side4 => exact (Kd.R_reads' HO474.out).2.1); rintro e w111 ⟨rfl, hb⟩; refine ⟨_, rfl, ?_⟩; replace HO_410002 := Aside0.mk (Kd.R_below (rRx10 HO_410002.out) hb); replace HO441 := Aside0.mk (Kd.R_below (rRx10 HO441.out) hb); replace HO446 := Aside0.mk (Kd.R_below (rRx10 HO446.out) hb); replace HO451 := Aside0.mk (Kd.R_below (rRx10 HO451.out) hb); replace HO456 := Aside0.mk (Kd.R_below (rRx10 HO456.out) hb); replace HO459 := Aside0.mk (Kd.R_below (rRx10 HO459.out) hb); replace HO471 := Aside0.mk (Kd.R_below (rRx10 HO471.out) hb); replace HO474 := Aside0.mk (Kd.R_below (rRx10 HO474.out) hb); replace BK409 := Aside0.mk (blk_below (rBx10 BK409.out) hb); replace BK460 := Aside0.mk (blk_below (rBx10 BK460.out) hb); replace BK475 := Aside0.mk (blk_below (rBx10 BK475.out) hb); replace HB := Aside0.mk (below_step (be3x10 HB.out GE409.out GE460.out GE475.out) hb); (try clear hb); (try clear hb2); (try clear hk); (try clear hi); obtain ⟨hcz112_0, hcz112_1, hcz112_2, hfz112_0, hfz112_1, hfz112_2⟩ := cf3x10 BK475.out) | ((with_reducible refine gate_callee (f := 95) rfl ?_); refine goesL_ (some 244) rfl rfl Try.func95 (by kernel_rfl) rfl #[.agg #[.int .i64 t467, .int .i64 t468, .slice Ao107 t469.length co107], .slice Ao108 t472.length co108] rfl mpx10 ?_; (with_reducible refine (impl_DigValue.calls kj27 t467 t468 _ _ t469 _ _ t472 t480 t481 _ ?side1 ?side2 ?side3 ?side4 A77.out).mono ?_); (case side1 => exact cRx10 HO471.out); (case side2 => exact (Kd.R_reads' HO471.out).2.1); (case side3 => exact cRx10 HO474.out); (case side4 => exact (Kd.R_reads' HO474.out).2.1); rintro e w113 ⟨rfl, hb⟩; refine ⟨_, rfl, ?_⟩; replace HO_410002 := Aside0.mk (Kd.R_below (rRx10 HO_410002.out) hb); replace HO441 := Aside0.mk (Kd.R_below (rRx10 HO441.out) hb); replace HO446 := Aside0.mk (Kd.R_below (rRx10 HO446.out) hb); replace HO451 := Aside0.mk (Kd.R_below (rRx10 HO451.out) hb); replace HO456 := Aside0.mk (Kd.R_below (rRx10 HO456.out) hb); replace HO459 := Aside0.mk (Kd.R_below (rRx10 HO459.out) hb); replace HO471 := Aside0.mk (Kd.R_below (rRx10 HO471.out) hb); replace HO474 := Aside0.mk (Kd.R_below (rRx10 HO474.out) hb); replace BK409 := Aside0.mk (blk_below (rBx10 BK409.out) hb); replace BK460 := Aside0.mk (blk_below (rBx10 BK460.out) hb); replace BK475 := Aside0.mk (blk_below (rBx10 BK475.out) hb); replace HB := Aside0.mk (below_step (be3x10 HB.out GE409.out GE460.out GE475.out) hb); (try clear hb); (try clear hb2); (try clear hk); (try clear hi); obtain ⟨hcz114_0, hcz114_1, hcz114_2, hfz114_0, hfz114_1, hfz114_2⟩ := cf3x10 BK475.out) | ((with_reducible refine gate_callee (f := 105) rfl ?_); refine goesL_ (some 250) rfl rfl Try.func105 (by kernel_rfl) rfl #[.agg #[.int .i64 t467, .int .i64 t468, .slice Ao107 t469.length co107], .slice Ao108 t472.length co108] rfl mpx10 ?_; (with_reducible refine (spec_DigValue.calls kj27 t467 t468 _ _ t469 _ _ t472 t482 t483 _ ?side1 ?side2 ?side3 ?side4 A78.out).mono ?_); (case side1 => exact cRx10 HO471.out); (case side2 => exact (Kd.R_reads' HO471.out).2.1); (case side3 => exact cRx10 HO474.out); (case side4 => exact (Kd.R_reads' HO474.out).2.1); rintro e w115 ⟨rfl, hb⟩; refine ⟨_, rfl, ?_⟩; replace HO_410002 := Aside0.mk (Kd.R_below (rRx10 HO_410002.out) hb); replace HO441 := Aside0.mk (Kd.R_below (rRx10 HO441.out) hb); replace HO446 := Aside0.mk (Kd.R_below (rRx10 HO446.out) hb); replace HO451 := Aside0.mk (Kd.R_below (rRx10 HO451.out) hb); replace HO456 := Aside0.mk (Kd.R_below (rRx10 HO456.out) hb); replace HO459 := Aside0.mk (Kd.R_below (rRx10 HO459.out) hb); replace HO471 := Aside0.mk (Kd.R_below (rRx10 HO471.out) hb); replace HO474 := Aside0.mk (Kd.R_below (rRx10 HO474.out) hb); replace BK409 := Aside0.mk (blk_below (rBx10 BK409.out) hb); replace BK460 := Aside0.mk (blk_below (rBx10 BK460.out) hb); replace BK475 := Aside0.mk (blk_below (rBx10 BK475.out) hb); replace HB := Aside0.mk (below_step (be3x10 HB.out GE409.out GE460.out GE475.out) hb); (try clear hb); (try clear hb2); (try clear hk); (try clear hi); obtain ⟨Ao116, co116, eo116⟩ := Kd.R_slice HO446.out; subst eo116; obtain ⟨Ao117, co117, eo117⟩ := Kd.R_slice HO451.out; subst eo117) | (go_at_call 55; (with_reducible refine (laws_pSameBools.calls kj27 _ _ t442 _ _ t447 true _ ?side1 ?side2 ?side3 ?side4 A80.out).mono ?_); (case side1 => exact cRx10 HO446.out); (case side2 => exact (Kd.R_reads' HO446.out).2.1); (case side3 => exact cRx10 HO451.out); (case side4 => exact (Kd.R_reads' HO451.out).2.1); rintro e w' ⟨rfl, ⟨nd, rfl⟩⟩))
                go_ret
                exact ⟨by first | rfl | (simp [errW_none, errW_some] <;> rfl) | (simp [*, errW_none, errW_some] <;> rfl), be3x10 HB.out GE409.out GE460.out GE475.out⟩
               ·rw [if_neg c88] at H
                have c88b0 : (t481 == t483) = false := by simpa using c88
                (try (have c88b1 : decide (t481 = t483) = false := by simpa using c88))
                (try (have c88b2 : (t481 == t483) = false := by simpa using c88))
                (try (have c88b3 : ¬ (t481 = t483) := by simpa using c88))
                clear c88
                exact absurd (H.trans (congrArg some hrt.out)) (by simp)
              ·rw [if_neg c87] at H
               have c87b0 : (t476 == t478) = false := beq_eq_false_iff_ne.mpr c87
               have c87b1 : (t476 != t478) = true := bne_iff_ne.mpr c87
               exact absurd (H.trans (congrArg some hrt.out)) (by simp)
             ·rw [if_neg c86] at H
              have c86b0 : (t477 == t479) = false := by simpa using c86
              (try (have c86b1 : decide (t477 = t479) = false := by simpa using c86))
              (try (have c86b2 : (t477 == t479) = false := by simpa using c86))
              (try (have c86b3 : ¬ (t477 = t479) := by simpa using c86))
              clear c86
              exact absurd (H.trans (congrArg some hrt.out)) (by simp)
            ·rw [if_neg c85] at H
             have c85b0 : (t462 == t465) = false := beq_eq_false_iff_ne.mpr c85
             have c85b1 : (t462 != t465) = true := bne_iff_ne.mpr c85
             exact absurd (H.trans (congrArg some hrt.out)) (by simp)
           ·rw [if_neg c84] at H
            have c84b0 : (t461 == t464) = false := beq_eq_false_iff_ne.mpr c84
            have c84b1 : (t461 != t464) = true := bne_iff_ne.mpr c84
            exact absurd (H.trans (congrArg some hrt.out)) (by simp)
          ·rw [if_neg c83] at H
           have c83b0 : (t463 == t466) = false := by simpa using c83
           (try (have c83b1 : decide (t463 = t466) = false := by simpa using c83))
           (try (have c83b2 : (t463 == t466) = false := by simpa using c83))
           (try (have c83b3 : ¬ (t463 = t466) := by simpa using c83))
           clear c83
           exact absurd (H.trans (congrArg some hrt.out)) (by simp)
         ·rw [if_neg c82] at H
          have c82b0 : (t443 == t448) = false := beq_eq_false_iff_ne.mpr c82
          have c82b1 : (t443 != t448) = true := bne_iff_ne.mpr c82
          exact absurd (H.trans (congrArg some hrt.out)) (by simp)
        ·replace c81 := Bool.eq_false_iff.mpr c81
         subst c81
         have H1 : (some false) = some r := by rw [if_neg (show ¬ (false = true) by decide)] at H; exact H
         clear H
         have H := H1
         clear H1
         exact absurd (H.trans (congrArg some hrt.out)) (by simp)
       ·rw [if_neg c79] at H
        have c79b0 : (t444 == t449) = false := by simpa using c79
        (try (have c79b1 : decide (t444 = t449) = false := by simpa using c79))
        (try (have c79b2 : (t444 == t449) = false := by simpa using c79))
        (try (have c79b3 : ¬ (t444 = t449) := by simpa using c79))
        clear c79
        exact absurd (H.trans (congrArg some hrt.out)) (by simp)

/-- THE ONE PURE STATEMENT of laws_FnDigs: yours. -/
def laws_FnDigs.Pure : Prop := ∀ (l0 : List Int) (l1 : List Int), l0.length ≤ maxLen → l0.length * 1 ≤ 140737488351232 → (∀ x ∈ l0, (Lit.int .u8 x).wf = true) → l1.length ≤ maxLen → l1.length * 1 ≤ 140737488351232 → (∀ x ∈ l1, (Lit.int .u8 x).wf = true) → ∃ k, laws_FnDigs.f k l0 l1 = some true
theorem laws_FnDigs.walk (P : laws_FnDigs.Pure) (a0 : Option Addr) (len0 cap0 : Nat) (z0 : List Int) (a1 : Option Addr) (len1 cap1 : Nat) (z1 : List Int) (w : World) (w0 : (a0 = none ∧ len0 = 0 ∧ cap0 = 0 ∧ z0 = []) ∨ ∃ x, a0 = some x ∧ len0 ≤ cap0 ∧ cap0 ≤ maxLen ∧ z0.length = cap0 ∧ (∀ i, i < z0.length → w.cell? (x.add i) = some (.int .u8 (z0.getD i 0))) ∧ ∀ n ∈ z0, (Lit.int .u8 n).wf = true) (y0 : len0 * 1 ≤ 140737488351232) (w1 : (a1 = none ∧ len1 = 0 ∧ cap1 = 0 ∧ z1 = []) ∨ ∃ x, a1 = some x ∧ len1 ≤ cap1 ∧ cap1 ≤ maxLen ∧ z1.length = cap1 ∧ (∀ i, i < z1.length → w.cell? (x.add i) = some (.int .u8 (z1.getD i 0))) ∧ ∀ n ∈ z1, (Lit.int .u8 n).wf = true) (y1 : len1 * 1 ≤ 140737488351232) :
  Calls Try.prog 8 #[.slice a0 len0 cap0, .slice a1 len1 cap1] w fun e w' => e = .returned (.bool true) ∧ Below w.heap.size w w' := by
 obtain ⟨l0, rfl, hr0, hm0, hw0, hc0⟩ := ReadsInt.ofRowC w0
 obtain ⟨l1, rfl, hr1, hm1, hw1, hc1⟩ := ReadsInt.ofRowC w1
 obtain ⟨k, h⟩ := P l0 l1 hm0 y0 hw0 hm1 y1 hw1
 refine (laws_FnDigs.calls k _ _ l0 _ _ l1 true w (Kd.C_of_reads (d := (0 : Int)) (h1 := fun _ => rfl) hr0) hc0 (Kd.C_of_reads (d := (0 : Int)) (h1 := fun _ => rfl) hr1) hc1 h (Aside0.mk rfl)).mono ?_
 rintro e w' ⟨rfl, hd⟩
 exact ⟨rfl, hd⟩

end Go.Proofs.Ytinfalmpncfneaa.PFnDigs
