/- This text is this session's own, not the print's: programs (wip/squeeze.py and others) made it out of what print.sh, or wip/ownprint.py, had written (BYTES set higher), its facts said by short words. -/
import Derived.Test.YtagnldmaglbpaaaPFnExactWorstLevelx0
import Derived.Test.YtagnldmaglbpaaaPFnExactWorstLevelx2
import Derived.Test.YtagnldmaglbpaaaPFnExactWorstLevelx4
import Derived.Test.YtagnldmaglbpaaaPFnExactWorstLevelx8
import Derived.Test.YtagnldmaglbpaaaPFnExactWorstLevelwx9
namespace Go.Proofs.Ytagnldmaglbpaaa.PFnExactWorstLevel
open Go.RowKit Go.Proofs.YtagnldmaglbpaaaW.PrintWords Go.Proofs.YtagnldmaglbpaaaW.PrintLast Go.Proofs.YtagnldmaglbpaaaW.PrintMore
attribute [local go_sem] max2_int min2_int max_two min_two max_three min_three max_four min_four   -- for this text's walks alone
set_option linter.unusedVariables false
set_option linter.unusedSimpArgs false

/-! ### laws_FnExactWorstLevel: function 9 -/
def laws_FnExactWorstLevel.j0 : Nat → Bool → Int → Int → Int → List Int → List Int → List Int → Int → Int → Int → List Int → List Int → List Int → Int → Int → Int → List Int → List Int → List Int → Int → Int → Int → List Int → List Int → List Int → Option (Bool)
 | 0, _, _, _, _, _, _, _, _, _, _, _, _, _, _, _, _, _, _, _, _, _, _, _, _, _ => none
 | k + 1, x47, x283000, x283001, x283002, x283003, x283004, x283005, x284000, x284001, x284002, x284003, x284004, x284005, x325000, x325001, x325002, x325003, x325004, x325005, x338000, x338001, x338002, x338003, x338004, x338005 => if x47 = true then (some false) else ((laws_toModel.f k x283000 x283001 x283002 x283003 x283004 x283005).bind fun bt340 => ((laws_eqModel.f k x325000 x325001 x325002 x325003 x325004 x325005 bt340.1 bt340.2.1 bt340.2.2.1 bt340.2.2.2.1 bt340.2.2.2.2.1 bt340.2.2.2.2.2).bind fun t352 => (if t352 = true then ((laws_toModel.f k x284000 x284001 x284002 x284003 x284004 x284005).bind fun bt353 => ((laws_eqModel.f k x338000 x338001 x338002 x338003 x338004 x338005 bt353.1 bt353.2.1 bt353.2.2.1 bt353.2.2.2.1 bt353.2.2.2.2.1 bt353.2.2.2.2.2).bind fun t365 => (if t365 = true then (some true) else (some false)))) else (some false))))
def laws_FnExactWorstLevel.f (k : Nat) (a0_0 : Int) (a0_1 : Int) (a0_2 : Int) (l0_3 : List Int) (l0_4 : List Int) (l0_5 : List Int) (a1_0 : Int) (a1_1 : Int) (a1_2 : Int) (l1_3 : List Int) (l1_4 : List Int) (l1_5 : List Int) : Option (Bool) := (laws_szModel.f a0_0 a0_1 a0_2 l0_3 l0_4 l0_5 1048576).bind fun t284 => (if t284 < 0 then (some true) else ((laws_szModel.f a1_0 a1_1 a1_2 l1_3 l1_4 l1_5 t284).bind fun t285 => (if t285 < 0 then (some true) else ((laws_toModel.f k a0_0 a0_1 a0_2 l0_3 l0_4 l0_5).bind fun bt286 => ((laws_toModel.f k a1_0 a1_1 a1_2 l1_3 l1_4 l1_5).bind fun bt298 => ((spec_WorstLevel.f k bt286.1 bt286.2.1 bt286.2.2.1 bt286.2.2.2.1 bt286.2.2.2.2.1 bt286.2.2.2.2.2 bt298.1 bt298.2.1 bt298.2.2.1 bt298.2.2.2.1 bt298.2.2.2.2.1 bt298.2.2.2.2.2).bind fun bt310 => ((laws_toModel.f k a0_0 a0_1 a0_2 l0_3 l0_4 l0_5).bind fun bt312 => ((laws_toModel.f k a1_0 a1_1 a1_2 l1_3 l1_4 l1_5).bind fun bt325 => ((impl_WorstLevel.f k bt312.1 bt312.2.1 bt312.2.2.1 bt312.2.2.2.1 bt312.2.2.2.2.1 bt312.2.2.2.2.2 bt325.1 bt325.2.1 bt325.2.2.1 bt325.2.2.2.1 bt325.2.2.2.2.1 bt325.2.2.2.2.2).bind fun bt338 => (if bt338.1 = bt310.1 then (laws_FnExactWorstLevel.j0 k (bt338.2 != bt310.2) a0_0 a0_1 a0_2 l0_3 l0_4 l0_5 a1_0 a1_1 a1_2 l1_3 l1_4 l1_5 bt312.1 bt312.2.1 bt312.2.2.1 bt312.2.2.2.1 bt312.2.2.2.2.1 bt312.2.2.2.2.2 bt325.1 bt325.2.1 bt325.2.2.1 bt325.2.2.2.1 bt325.2.2.2.2.1 bt325.2.2.2.2.2) else (laws_FnExactWorstLevel.j0 k true a0_0 a0_1 a0_2 l0_3 l0_4 l0_5 a1_0 a1_1 a1_2 l1_3 l1_4 l1_5 bt312.1 bt312.2.1 bt312.2.2.1 bt312.2.2.2.1 bt312.2.2.2.2.1 bt312.2.2.2.2.2 bt325.1 bt325.2.1 bt325.2.2.1 bt325.2.2.2.1 bt325.2.2.2.2.1 bt325.2.2.2.2.2)))))))))))
def laws_FnExactWorstLevel.T8 : Bool × List (List Nat × List Nat) := (true, [([], []), ([0], [0]), ([], []), ([2, 1], [2]), ([1, 3, 3], [1, 3]), ([4], [4]), ([5], [5]), ([5], [5]), ([6, 4, 0, 1, 2, 3, 4, 5, 6], [6]), ([7, 8, 0, 1, 2, 3, 4, 5, 6, 7, 8], [7])])
def laws_FnExactWorstLevel.B8 : List Nat := [0, 1, 0, 7, 15, 31, 63, 63, 127, 511]
theorem laws_FnExactWorstLevel.tab8 : rtab .any (opsOf Try.f9 8) = laws_FnExactWorstLevel.T8 := by kernel_rfl
theorem laws_FnExactWorstLevel.bits8 : waitsOk laws_FnExactWorstLevel.T8.2 laws_FnExactWorstLevel.B8 = true := by kernel_rfl
set_option maxHeartbeats 8000000 in
set_option maxRecDepth 100000 in
theorem laws_FnExactWorstLevel.calls (k : Nat) (a0_0 : Int) (a0_1 : Int) (a0_2 : Int) (A0_3 : Option Addr) (c0_3 : Nat) (l0_3 : List Int) (A0_4 : Option Addr) (c0_4 : Nat) (l0_4 : List Int) (A0_5 : Option Addr) (c0_5 : Nat) (l0_5 : List Int) (a1_0 : Int) (a1_1 : Int) (a1_2 : Int) (A1_3 : Option Addr) (c1_3 : Nat) (l1_3 : List Int) (A1_4 : Option Addr) (c1_4 : Nat) (l1_4 : List Int) (A1_5 : Option Addr) (c1_5 : Nat) (l1_5 : List Int) (r : Bool) (w : World) (hr0_3 : Kd.C (Kd.int .i64) w A0_3 l0_3.length l0_3) (hc0_3 : l0_3.length ≤ c0_3) (hr0_4 : Kd.C (Kd.int .i64) w A0_4 l0_4.length l0_4) (hc0_4 : l0_4.length ≤ c0_4) (hr0_5 : Kd.C (Kd.int .i64) w A0_5 l0_5.length l0_5) (hc0_5 : l0_5.length ≤ c0_5) (hr1_3 : Kd.C (Kd.int .i64) w A1_3 l1_3.length l1_3) (hc1_3 : l1_3.length ≤ c1_3) (hr1_4 : Kd.C (Kd.int .i64) w A1_4 l1_4.length l1_4) (hc1_4 : l1_4.length ≤ c1_4) (hr1_5 : Kd.C (Kd.int .i64) w A1_5 l1_5.length l1_5) (hc1_5 : l1_5.length ≤ c1_5) (h : laws_FnExactWorstLevel.f k a0_0 a0_1 a0_2 l0_3 l0_4 l0_5 a1_0 a1_1 a1_2 l1_3 l1_4 l1_5 = some r) :
  Calls Try.prog 9 #[.agg #[.int .i64 a0_0, .int .i64 a0_1, .int .i64 a0_2, .slice A0_3 l0_3.length c0_3, .slice A0_4 l0_4.length c0_4, .slice A0_5 l0_5.length c0_5], .agg #[.int .i64 a1_0, .int .i64 a1_1, .int .i64 a1_2, .slice A1_3 l1_3.length c1_3, .slice A1_4 l1_4.length c1_4, .slice A1_5 l1_5.length c1_5]] w fun e w' => e = .returned (.bool r) ∧ Below w.heap.size w w' := by
 have hu26 := Try.underlying26
 have hu41 := Try.underlying41
 have HR0_3 := Aside0.mk hr0_3
 have HC0_3 := Aside0.mk hc0_3
 clear hr0_3 hc0_3
 have HR0_4 := Aside0.mk hr0_4
 have HC0_4 := Aside0.mk hc0_4
 clear hr0_4 hc0_4
 have HR0_5 := Aside0.mk hr0_5
 have HC0_5 := Aside0.mk hc0_5
 clear hr0_5 hc0_5
 have HR1_3 := Aside0.mk hr1_3
 have HC1_3 := Aside0.mk hc1_3
 clear hr1_3 hc1_3
 have HR1_4 := Aside0.mk hr1_4
 have HC1_4 := Aside0.mk hc1_4
 clear hr1_4 hc1_4
 have HR1_5 := Aside0.mk hr1_5
 have HC1_5 := Aside0.mk hc1_5
 clear hr1_5 hc1_5
 have HB := Aside0.mk (Below.refl w.heap.size w)
 have H : ((laws_szModel.f a0_0 a0_1 a0_2 l0_3 l0_4 l0_5 1048576).bind fun t284 => (if t284 < 0 then (some true) else ((laws_szModel.f a1_0 a1_1 a1_2 l1_3 l1_4 l1_5 t284).bind fun t285 => (if t285 < 0 then (some true) else ((laws_toModel.f k a0_0 a0_1 a0_2 l0_3 l0_4 l0_5).bind fun bt286 => ((laws_toModel.f k a1_0 a1_1 a1_2 l1_3 l1_4 l1_5).bind fun bt298 => ((spec_WorstLevel.f k bt286.1 bt286.2.1 bt286.2.2.1 bt286.2.2.2.1 bt286.2.2.2.2.1 bt286.2.2.2.2.2 bt298.1 bt298.2.1 bt298.2.2.1 bt298.2.2.2.1 bt298.2.2.2.2.1 bt298.2.2.2.2.2).bind fun bt310 => ((laws_toModel.f k a0_0 a0_1 a0_2 l0_3 l0_4 l0_5).bind fun bt312 => ((laws_toModel.f k a1_0 a1_1 a1_2 l1_3 l1_4 l1_5).bind fun bt325 => ((impl_WorstLevel.f k bt312.1 bt312.2.1 bt312.2.2.1 bt312.2.2.2.1 bt312.2.2.2.2.1 bt312.2.2.2.2.2 bt325.1 bt325.2.1 bt325.2.2.1 bt325.2.2.2.1 bt325.2.2.2.2.1 bt325.2.2.2.2.2).bind fun bt338 => (if bt338.1 = bt310.1 then (laws_FnExactWorstLevel.j0 k (bt338.2 != bt310.2) a0_0 a0_1 a0_2 l0_3 l0_4 l0_5 a1_0 a1_1 a1_2 l1_3 l1_4 l1_5 bt312.1 bt312.2.1 bt312.2.2.1 bt312.2.2.2.1 bt312.2.2.2.2.1 bt312.2.2.2.2.2 bt325.1 bt325.2.1 bt325.2.2.1 bt325.2.2.2.1 bt325.2.2.2.2.1 bt325.2.2.2.2.2) else (laws_FnExactWorstLevel.j0 k true a0_0 a0_1 a0_2 l0_3 l0_4 l0_5 a1_0 a1_1 a1_2 l1_3 l1_4 l1_5 bt312.1 bt312.2.1 bt312.2.2.1 bt312.2.2.2.1 bt312.2.2.2.2.1 bt312.2.2.2.2.2 bt325.1 bt325.2.1 bt325.2.2.1 bt325.2.2.2.1 bt325.2.2.2.2.1 bt325.2.2.2.2.2)))))))))))) = some r := h
 clear h
 replace H := Option.bind_eq_some_iff.mp H
 obtain ⟨t284, A30, H⟩ := H
 have A3 := Aside0.mk A30
 clear A30
 by_cases c4 : t284 < 0
 ·rw [if_pos c4] at H
  have c4b0 : decide (t284 < 0) = true := decide_eq_true c4
  clear c4
  obtain rfl := Option.some.inj H
  go_enter Try.func9, Try.ntmps9
  go_wp2_with (first | ((with_reducible refine gate_dst (N := 2) rfl ?_); refine box_event ?hg (N := 2) ?hd (cs := #[.int .i64 a0_0, .int .i64 a0_1, .int .i64 a0_2, .slice A0_3 l0_3.length c0_3, .slice A0_4 l0_4.length c0_4, .slice A0_5 l0_5.length c0_5]) (t := 26) ?hr ?_; (case hd => rfl); (case hg => rfl); (case hr => first | (go_simp; done) | (go_simp; rfl)); intro gb282 hg w5 hbox hb; have BK282 := Aside0.mk (hbox); have GW282 := Aside0.mk ((by rw [hg]; exact (below_size (be0x9 HB.out)) : w.heap.size ≤ gb282)); have GE282 := Aside0.mk ((by rw [hg]; exact (below_size (be0x9 HB.out)) : w.heap.size ≤ gb282)); replace HB := Aside0.mk (below_step (be0x9 HB.out) hb); clear hb hbox hg) | ((with_reducible refine gate_dst (N := 3) rfl ?_); refine box_event ?hg (N := 3) ?hd (cs := #[.int .i64 a1_0, .int .i64 a1_1, .int .i64 a1_2, .slice A1_3 l1_3.length c1_3, .slice A1_4 l1_4.length c1_4, .slice A1_5 l1_5.length c1_5]) (t := 26) ?hr ?_; (case hd => rfl); (case hg => rfl); (case hr => first | (go_simp; done) | (go_simp; rfl)); intro gb283 hg w6 hbox hb; have BK283 := Aside0.mk (hbox); have GW283 := Aside0.mk ((by rw [hg]; exact (below_size (be1x9 HB.out GE282.out)) : w.heap.size ≤ gb283)); have GE283 := Aside0.mk ((by rw [hg]; exact (below_size (be1x9 HB.out GE282.out)) : w.heap.size ≤ gb283)); replace HB := Aside0.mk (below_step (be1x9 HB.out GE282.out) hb); have NB282_283 := Aside0.mk ((by rw [hg]; exact Nat.ne_of_lt (blk_lt (g := gb282) (o := .cells #[.int .i64 a0_0, .int .i64 a0_1, .int .i64 a0_2, .slice A0_3 l0_3.length c0_3, .slice A0_4 l0_4.length c0_4, .slice A0_5 l0_5.length c0_5] 26 (0, 0)) (rBx9 BK282.out)) : gb282 ≠ gb283)); have NB283_282 := Aside0.mk ((by rw [hg]; exact Nat.ne_of_gt (blk_lt (g := gb282) (o := .cells #[.int .i64 a0_0, .int .i64 a0_1, .int .i64 a0_2, .slice A0_3 l0_3.length c0_3, .slice A0_4 l0_4.length c0_4, .slice A0_5 l0_5.length c0_5] 26 (0, 0)) (rBx9 BK282.out)) : gb283 ≠ gb282)); replace BK282 := Aside0.mk (blk_below (g := gb282) (o := .cells #[.int .i64 a0_0, .int .i64 a0_1, .int .i64 a0_2, .slice A0_3 l0_3.length c0_3, .slice A0_4 l0_4.length c0_4, .slice A0_5 l0_5.length c0_5] 26 (0, 0)) (rBx9 BK282.out) hb); clear hb hbox hg; have hnb7 := NB282_283.out; have hnc7 := NB283_282.out; obtain ⟨hcz8_0, hcz8_1, hcz8_2, hcz8_3, hcz8_4, hcz8_5, hfz8_0, hfz8_1, hfz8_2, hfz8_3, hfz8_4, hfz8_5⟩ := cf6x9 BK282.out) | ((with_reducible refine gate_callee (f := 15) rfl ?_); refine goesL_ (some 14) rfl rfl Try.func15 (by kernel_rfl) rfl #[.agg #[.int .i64 a0_0, .int .i64 a0_1, .int .i64 a0_2, .slice A0_3 l0_3.length c0_3, .slice A0_4 l0_4.length c0_4, .slice A0_5 l0_5.length c0_5], .int .i64 1048576] rfl mpx9 ?_; (with_reducible refine (laws_szModel.calls a0_0 a0_1 a0_2 _ _ l0_3 _ _ l0_4 _ _ l0_5 1048576 t284 _ ?side1 ?side2 ?side3 ?side4 ?side5 ?side6 A3.out).mono ?_); (case side1 => exact rCx9 (Kd.C_below HR0_3.out HB.out)); (case side2 => exact HC0_3.out); (case side3 => exact rCx9 (Kd.C_below HR0_4.out HB.out)); (case side4 => exact HC0_4.out); (case side5 => exact rCx9 (Kd.C_below HR0_5.out HB.out)); (case side6 => exact HC0_5.out); rintro e w9 ⟨rfl, hb⟩; refine ⟨_, rfl, ?_⟩; replace BK282 := Aside0.mk (blk_below (g := gb282) (o := .cells #[.int .i64 a0_0, .int .i64 a0_1, .int .i64 a0_2, .slice A0_3 l0_3.length c0_3, .slice A0_4 l0_4.length c0_4, .slice A0_5 l0_5.length c0_5] 26 (0, 0)) (rBx9 BK282.out) hb); replace BK283 := Aside0.mk (blk_below (g := gb283) (o := .cells #[.int .i64 a1_0, .int .i64 a1_1, .int .i64 a1_2, .slice A1_3 l1_3.length c1_3, .slice A1_4 l1_4.length c1_4, .slice A1_5 l1_5.length c1_5] 26 (0, 0)) (rBx9 BK283.out) hb); replace HB := Aside0.mk (below_step (be2x9 HB.out GE282.out GE283.out) hb); (try clear hb); (try clear hb2); (try clear hk); (try clear hi)))
  go_ret
  exact ⟨by first | rfl | (simp [errW_none, errW_some] <;> rfl) | (simp [*, errW_none, errW_some] <;> rfl), be2x9 HB.out GE282.out GE283.out⟩
 ·rw [if_neg c4] at H
  have c4b0 : decide (t284 < 0) = false := decide_eq_false c4
  clear c4
  replace H := Option.bind_eq_some_iff.mp H
  obtain ⟨t285, A100, H⟩ := H
  have A10 := Aside0.mk A100
  clear A100
  by_cases c11 : t285 < 0
  ·rw [if_pos c11] at H
   have c11b0 : decide (t285 < 0) = true := decide_eq_true c11
   clear c11
   obtain rfl := Option.some.inj H
   go_enter Try.func9, Try.ntmps9
   go_wp2_with (first | ((with_reducible refine gate_dst (N := 2) rfl ?_); refine box_event ?hg (N := 2) ?hd (cs := #[.int .i64 a0_0, .int .i64 a0_1, .int .i64 a0_2, .slice A0_3 l0_3.length c0_3, .slice A0_4 l0_4.length c0_4, .slice A0_5 l0_5.length c0_5]) (t := 26) ?hr ?_; (case hd => rfl); (case hg => rfl); (case hr => first | (go_simp; done) | (go_simp; rfl)); intro gb282 hg w12 hbox hb; have BK282 := Aside0.mk (hbox); have GW282 := Aside0.mk ((by rw [hg]; exact (below_size (be0x9 HB.out)) : w.heap.size ≤ gb282)); have GE282 := Aside0.mk ((by rw [hg]; exact (below_size (be0x9 HB.out)) : w.heap.size ≤ gb282)); replace HB := Aside0.mk (below_step (be0x9 HB.out) hb); clear hb hbox hg) | ((with_reducible refine gate_dst (N := 3) rfl ?_); refine box_event ?hg (N := 3) ?hd (cs := #[.int .i64 a1_0, .int .i64 a1_1, .int .i64 a1_2, .slice A1_3 l1_3.length c1_3, .slice A1_4 l1_4.length c1_4, .slice A1_5 l1_5.length c1_5]) (t := 26) ?hr ?_; (case hd => rfl); (case hg => rfl); (case hr => first | (go_simp; done) | (go_simp; rfl)); intro gb283 hg w13 hbox hb; have BK283 := Aside0.mk (hbox); have GW283 := Aside0.mk ((by rw [hg]; exact (below_size (be1x9 HB.out GE282.out)) : w.heap.size ≤ gb283)); have GE283 := Aside0.mk ((by rw [hg]; exact (below_size (be1x9 HB.out GE282.out)) : w.heap.size ≤ gb283)); replace HB := Aside0.mk (below_step (be1x9 HB.out GE282.out) hb); have NB282_283 := Aside0.mk ((by rw [hg]; exact Nat.ne_of_lt (blk_lt (g := gb282) (o := .cells #[.int .i64 a0_0, .int .i64 a0_1, .int .i64 a0_2, .slice A0_3 l0_3.length c0_3, .slice A0_4 l0_4.length c0_4, .slice A0_5 l0_5.length c0_5] 26 (0, 0)) (rBx9 BK282.out)) : gb282 ≠ gb283)); have NB283_282 := Aside0.mk ((by rw [hg]; exact Nat.ne_of_gt (blk_lt (g := gb282) (o := .cells #[.int .i64 a0_0, .int .i64 a0_1, .int .i64 a0_2, .slice A0_3 l0_3.length c0_3, .slice A0_4 l0_4.length c0_4, .slice A0_5 l0_5.length c0_5] 26 (0, 0)) (rBx9 BK282.out)) : gb283 ≠ gb282)); replace BK282 := Aside0.mk (blk_below (g := gb282) (o := .cells #[.int .i64 a0_0, .int .i64 a0_1, .int .i64 a0_2, .slice A0_3 l0_3.length c0_3, .slice A0_4 l0_4.length c0_4, .slice A0_5 l0_5.length c0_5] 26 (0, 0)) (rBx9 BK282.out) hb); clear hb hbox hg; have hnb14 := NB282_283.out; have hnc14 := NB283_282.out; obtain ⟨hcz15_0, hcz15_1, hcz15_2, hcz15_3, hcz15_4, hcz15_5, hfz15_0, hfz15_1, hfz15_2, hfz15_3, hfz15_4, hfz15_5⟩ := cf6x9 BK282.out) | ((with_reducible refine gate_callee (f := 15) rfl ?_); refine goesL_ (some 14) rfl rfl Try.func15 (by kernel_rfl) rfl #[.agg #[.int .i64 a0_0, .int .i64 a0_1, .int .i64 a0_2, .slice A0_3 l0_3.length c0_3, .slice A0_4 l0_4.length c0_4, .slice A0_5 l0_5.length c0_5], .int .i64 1048576] rfl mpx9 ?_; (with_reducible refine (laws_szModel.calls a0_0 a0_1 a0_2 _ _ l0_3 _ _ l0_4 _ _ l0_5 1048576 t284 _ ?side1 ?side2 ?side3 ?side4 ?side5 ?side6 A3.out).mono ?_); (case side1 => exact rCx9 (Kd.C_below HR0_3.out HB.out)); (case side2 => exact HC0_3.out); (case side3 => exact rCx9 (Kd.C_below HR0_4.out HB.out)); (case side4 => exact HC0_4.out); (case side5 => exact rCx9 (Kd.C_below HR0_5.out HB.out)); (case side6 => exact HC0_5.out); rintro e w16 ⟨rfl, hb⟩; refine ⟨_, rfl, ?_⟩; replace BK282 := Aside0.mk (blk_below (g := gb282) (o := .cells #[.int .i64 a0_0, .int .i64 a0_1, .int .i64 a0_2, .slice A0_3 l0_3.length c0_3, .slice A0_4 l0_4.length c0_4, .slice A0_5 l0_5.length c0_5] 26 (0, 0)) (rBx9 BK282.out) hb); replace BK283 := Aside0.mk (blk_below (g := gb283) (o := .cells #[.int .i64 a1_0, .int .i64 a1_1, .int .i64 a1_2, .slice A1_3 l1_3.length c1_3, .slice A1_4 l1_4.length c1_4, .slice A1_5 l1_5.length c1_5] 26 (0, 0)) (rBx9 BK283.out) hb); replace HB := Aside0.mk (below_step (be2x9 HB.out GE282.out GE283.out) hb); (try clear hb); (try clear hb2); (try clear hk); (try clear hi); obtain ⟨hcz17_0, hcz17_1, hcz17_2, hcz17_3, hcz17_4, hcz17_5, hfz17_0, hfz17_1, hfz17_2, hfz17_3, hfz17_4, hfz17_5⟩ := cf6x9 BK283.out) | ((with_reducible refine gate_callee (f := 15) rfl ?_); refine goesL_ (some 19) rfl rfl Try.func15 (by kernel_rfl) rfl #[.agg #[.int .i64 a1_0, .int .i64 a1_1, .int .i64 a1_2, .slice A1_3 l1_3.length c1_3, .slice A1_4 l1_4.length c1_4, .slice A1_5 l1_5.length c1_5], .int .i64 t284] rfl mpx9 ?_; (with_reducible refine (laws_szModel.calls a1_0 a1_1 a1_2 _ _ l1_3 _ _ l1_4 _ _ l1_5 t284 t285 _ ?side1 ?side2 ?side3 ?side4 ?side5 ?side6 A10.out).mono ?_); (case side1 => exact rCx9 (Kd.C_below HR1_3.out HB.out)); (case side2 => exact HC1_3.out); (case side3 => exact rCx9 (Kd.C_below HR1_4.out HB.out)); (case side4 => exact HC1_4.out); (case side5 => exact rCx9 (Kd.C_below HR1_5.out HB.out)); (case side6 => exact HC1_5.out); rintro e w18 ⟨rfl, hb⟩; refine ⟨_, rfl, ?_⟩; replace BK282 := Aside0.mk (blk_below (g := gb282) (o := .cells #[.int .i64 a0_0, .int .i64 a0_1, .int .i64 a0_2, .slice A0_3 l0_3.length c0_3, .slice A0_4 l0_4.length c0_4, .slice A0_5 l0_5.length c0_5] 26 (0, 0)) (rBx9 BK282.out) hb); replace BK283 := Aside0.mk (blk_below (g := gb283) (o := .cells #[.int .i64 a1_0, .int .i64 a1_1, .int .i64 a1_2, .slice A1_3 l1_3.length c1_3, .slice A1_4 l1_4.length c1_4, .slice A1_5 l1_5.length c1_5] 26 (0, 0)) (rBx9 BK283.out) hb); replace HB := Aside0.mk (below_step (be2x9 HB.out GE282.out GE283.out) hb); (try clear hb); (try clear hb2); (try clear hk); (try clear hi)))
   go_ret
   exact ⟨by first | rfl | (simp [errW_none, errW_some] <;> rfl) | (simp [*, errW_none, errW_some] <;> rfl), be2x9 HB.out GE282.out GE283.out⟩
  ·rw [if_neg c11] at H
   have c11b0 : decide (t285 < 0) = false := decide_eq_false c11
   clear c11
   replace H := Option.bind_eq_some_iff.mp H
   obtain ⟨⟨t286, t287, t288, t289, t292, t295⟩, A190, H⟩ := H
   (try dsimp only at H)
   have A19 := Aside0.mk A190
   clear A190
   replace H := Option.bind_eq_some_iff.mp H
   obtain ⟨⟨t298, t299, t300, t301, t304, t307⟩, A200, H⟩ := H
   (try dsimp only at H)
   have A20 := Aside0.mk A200
   clear A200
   replace H := Option.bind_eq_some_iff.mp H
   obtain ⟨⟨t310, t311⟩, A210, H⟩ := H
   (try dsimp only at H)
   have A21 := Aside0.mk A210
   clear A210
   replace H := Option.bind_eq_some_iff.mp H
   obtain ⟨⟨t312, t313, t314, t315, t318, t321⟩, A220, H⟩ := H
   (try dsimp only at H)
   have A22 := Aside0.mk A220
   clear A220
   replace H := Option.bind_eq_some_iff.mp H
   obtain ⟨⟨t325, t326, t327, t328, t331, t334⟩, A230, H⟩ := H
   (try dsimp only at H)
   have A23 := Aside0.mk A230
   clear A230
   replace H := Option.bind_eq_some_iff.mp H
   obtain ⟨⟨t338, t339⟩, A240, H⟩ := H
   (try dsimp only at H)
   have A24 := Aside0.mk A240
   clear A240
   have HC25 := Aside0.mk H
   clear H
   go_enter Try.func9, Try.ntmps9
   try go_wp2_with (first | ((with_reducible refine gate_dst (N := 2) rfl ?_); refine box_event ?hg (N := 2) ?hd (cs := #[.int .i64 a0_0, .int .i64 a0_1, .int .i64 a0_2, .slice A0_3 l0_3.length c0_3, .slice A0_4 l0_4.length c0_4, .slice A0_5 l0_5.length c0_5]) (t := 26) ?hr ?_; (case hd => rfl); (case hg => rfl); (case hr => first | (go_simp; done) | (go_simp; rfl)); intro gb282 hg w26 hbox hb; have BK282 := Aside0.mk (hbox); have GW282 := Aside0.mk ((by rw [hg]; exact (below_size (be0x9 HB.out)) : w.heap.size ≤ gb282)); have GE282 := Aside0.mk ((by rw [hg]; exact (below_size (be0x9 HB.out)) : w.heap.size ≤ gb282)); replace HB := Aside0.mk (below_step (be0x9 HB.out) hb); clear hb hbox hg) | ((with_reducible refine gate_dst (N := 3) rfl ?_); refine box_event ?hg (N := 3) ?hd (cs := #[.int .i64 a1_0, .int .i64 a1_1, .int .i64 a1_2, .slice A1_3 l1_3.length c1_3, .slice A1_4 l1_4.length c1_4, .slice A1_5 l1_5.length c1_5]) (t := 26) ?hr ?_; (case hd => rfl); (case hg => rfl); (case hr => first | (go_simp; done) | (go_simp; rfl)); intro gb283 hg w27 hbox hb; have BK283 := Aside0.mk (hbox); have GW283 := Aside0.mk ((by rw [hg]; exact (below_size (be1x9 HB.out GE282.out)) : w.heap.size ≤ gb283)); have GE283 := Aside0.mk ((by rw [hg]; exact (below_size (be1x9 HB.out GE282.out)) : w.heap.size ≤ gb283)); replace HB := Aside0.mk (below_step (be1x9 HB.out GE282.out) hb); have NB282_283 := Aside0.mk ((by rw [hg]; exact Nat.ne_of_lt (blk_lt (g := gb282) (o := .cells #[.int .i64 a0_0, .int .i64 a0_1, .int .i64 a0_2, .slice A0_3 l0_3.length c0_3, .slice A0_4 l0_4.length c0_4, .slice A0_5 l0_5.length c0_5] 26 (0, 0)) (rBx9 BK282.out)) : gb282 ≠ gb283)); have NB283_282 := Aside0.mk ((by rw [hg]; exact Nat.ne_of_gt (blk_lt (g := gb282) (o := .cells #[.int .i64 a0_0, .int .i64 a0_1, .int .i64 a0_2, .slice A0_3 l0_3.length c0_3, .slice A0_4 l0_4.length c0_4, .slice A0_5 l0_5.length c0_5] 26 (0, 0)) (rBx9 BK282.out)) : gb283 ≠ gb282)); replace BK282 := Aside0.mk (blk_below (g := gb282) (o := .cells #[.int .i64 a0_0, .int .i64 a0_1, .int .i64 a0_2, .slice A0_3 l0_3.length c0_3, .slice A0_4 l0_4.length c0_4, .slice A0_5 l0_5.length c0_5] 26 (0, 0)) (rBx9 BK282.out) hb); clear hb hbox hg; have hnb28 := NB282_283.out; have hnc28 := NB283_282.out; obtain ⟨hcz29_0, hcz29_1, hcz29_2, hcz29_3, hcz29_4, hcz29_5, hfz29_0, hfz29_1, hfz29_2, hfz29_3, hfz29_4, hfz29_5⟩ := cf6x9 BK282.out) | ((with_reducible refine gate_callee (f := 15) rfl ?_); refine goesL_ (some 14) rfl rfl Try.func15 (by kernel_rfl) rfl #[.agg #[.int .i64 a0_0, .int .i64 a0_1, .int .i64 a0_2, .slice A0_3 l0_3.length c0_3, .slice A0_4 l0_4.length c0_4, .slice A0_5 l0_5.length c0_5], .int .i64 1048576] rfl mpx9 ?_; (with_reducible refine (laws_szModel.calls a0_0 a0_1 a0_2 _ _ l0_3 _ _ l0_4 _ _ l0_5 1048576 t284 _ ?side1 ?side2 ?side3 ?side4 ?side5 ?side6 A3.out).mono ?_); (case side1 => exact rCx9 (Kd.C_below HR0_3.out HB.out)); (case side2 => exact HC0_3.out); (case side3 => exact rCx9 (Kd.C_below HR0_4.out HB.out)); (case side4 => exact HC0_4.out); (case side5 => exact rCx9 (Kd.C_below HR0_5.out HB.out)); (case side6 => exact HC0_5.out); rintro e w30 ⟨rfl, hb⟩; refine ⟨_, rfl, ?_⟩; replace BK282 := Aside0.mk (blk_below (g := gb282) (o := .cells #[.int .i64 a0_0, .int .i64 a0_1, .int .i64 a0_2, .slice A0_3 l0_3.length c0_3, .slice A0_4 l0_4.length c0_4, .slice A0_5 l0_5.length c0_5] 26 (0, 0)) (rBx9 BK282.out) hb); replace BK283 := Aside0.mk (blk_below (g := gb283) (o := .cells #[.int .i64 a1_0, .int .i64 a1_1, .int .i64 a1_2, .slice A1_3 l1_3.length c1_3, .slice A1_4 l1_4.length c1_4, .slice A1_5 l1_5.length c1_5] 26 (0, 0)) (rBx9 BK283.out) hb); replace HB := Aside0.mk (below_step (be2x9 HB.out GE282.out GE283.out) hb); (try clear hb); (try clear hb2); (try clear hk); (try clear hi); obtain ⟨hcz31_0, hcz31_1, hcz31_2, hcz31_3, hcz31_4, hcz31_5, hfz31_0, hfz31_1, hfz31_2, hfz31_3, hfz31_4, hfz31_5⟩ := cf6x9 BK283.out) | ((with_reducible refine gate_callee (f := 15) rfl ?_); refine goesL_ (some 19) rfl rfl Try.func15 (by kernel_rfl) rfl #[.agg #[.int .i64 a1_0, .int .i64 a1_1, .int .i64 a1_2, .slice A1_3 l1_3.length c1_3, .slice A1_4 l1_4.length c1_4, .slice A1_5 l1_5.length c1_5], .int .i64 t284] rfl mpx9 ?_; (with_reducible refine (laws_szModel.calls a1_0 a1_1 a1_2 _ _ l1_3 _ _ l1_4 _ _ l1_5 t284 t285 _ ?side1 ?side2 ?side3 ?side4 ?side5 ?side6 A10.out).mono ?_); (case side1 => exact rCx9 (Kd.C_below HR1_3.out HB.out)); (case side2 => exact HC1_3.out); (case side3 => exact rCx9 (Kd.C_below HR1_4.out HB.out)); (case side4 => exact HC1_4.out); (case side5 => exact rCx9 (Kd.C_below HR1_5.out HB.out)); (case side6 => exact HC1_5.out); rintro e w32 ⟨rfl, hb⟩; refine ⟨_, rfl, ?_⟩; replace BK282 := Aside0.mk (blk_below (g := gb282) (o := .cells #[.int .i64 a0_0, .int .i64 a0_1, .int .i64 a0_2, .slice A0_3 l0_3.length c0_3, .slice A0_4 l0_4.length c0_4, .slice A0_5 l0_5.length c0_5] 26 (0, 0)) (rBx9 BK282.out) hb); replace BK283 := Aside0.mk (blk_below (g := gb283) (o := .cells #[.int .i64 a1_0, .int .i64 a1_1, .int .i64 a1_2, .slice A1_3 l1_3.length c1_3, .slice A1_4 l1_4.length c1_4, .slice A1_5 l1_5.length c1_5] 26 (0, 0)) (rBx9 BK283.out) hb); replace HB := Aside0.mk (below_step (be2x9 HB.out GE282.out GE283.out) hb); (try clear hb); (try clear hb2); (try clear hk); (try clear hi)))
   have n0_ := Aside0.mk (blk_drew BK282.out)
   have n1_ := Aside0.mk (blk_drew BK283.out)
   have n2_ := Aside0.mk (below_drew1 HB.out)
   clear BK282
   clear BK283
   clear HB
   have BK282 := n0_
   have BK283 := n1_
   have HB := n2_
   clear n0_ n1_ n2_
   refine start_ (n := 10) (S := fun w' => w'.cell? ⟨gb282, 0, none⟩ = some (.int .i64 a0_0) ∧ w'.cell? ⟨gb282, 1, none⟩ = some (.int .i64 a0_1) ∧ w'.cell? ⟨gb282, 2, none⟩ = some (.int .i64 a0_2) ∧ w'.cell? ⟨gb282, 3, none⟩ = some (.slice A0_3 l0_3.length c0_3) ∧ w'.cell? ⟨gb282, 4, none⟩ = some (.slice A0_4 l0_4.length c0_4) ∧ w'.cell? ⟨gb282, 5, none⟩ = some (.slice A0_5 l0_5.length c0_5) ∧ w'.cell? ⟨gb283, 0, none⟩ = some (.int .i64 a1_0) ∧ w'.cell? ⟨gb283, 1, none⟩ = some (.int .i64 a1_1) ∧ w'.cell? ⟨gb283, 2, none⟩ = some (.int .i64 a1_2) ∧ w'.cell? ⟨gb283, 3, none⟩ = some (.slice A1_3 l1_3.length c1_3) ∧ w'.cell? ⟨gb283, 4, none⟩ = some (.slice A1_4 l1_4.length c1_4) ∧ w'.cell? ⟨gb283, 5, none⟩ = some (.slice A1_5 l1_5.length c1_5)) (ds := []) #[false, false, false, false, false, false, false, false, false, false] (by kernel_rfl) rfl rfl (ca6x9 BK282.out (cc6x9 BK283.out)) (fun hHeld => ?_); refine with_tabW laws_FnExactWorstLevel.tab8 laws_FnExactWorstLevel.bits8 (fun HT_ HW_ => ?_)
   generalize w32.drew = w33 at BK282 BK283 HB hHeld ⊢
   refine take_ (i := 0) (N := some 23) (v := ?_) (a' := ?_) #[true, false, false, false, false, false, false, false, false, false] rfl rfl (take_ofW HT_.out HW_.out (by kernel_rfl)) (fun _ _ _ h => h) (Or.inl ⟨by rfl, ?_⟩) hHeld ?_ ?_
   rotate_left
   ·rintro w' ⟨s0, s1, s2, s3, s4, s5, s6, s7, s8, s9, s10, s11⟩
    go_simp
    with_reducible rfl
   rotate_left
   ·simp only [Act.put, List.setIfInBounds_toArray, List.set_cons_zero, List.set_cons_succ, i64_w, i32_w]
    rfl
   refine take_ (i := 2) (N := some 25) (v := ?_) (a' := ?_) #[true, false, true, false, false, false, false, false, false, false] rfl rfl (take_ofW HT_.out HW_.out (by kernel_rfl)) (fun _ _ _ h => h) (Or.inl ⟨by rfl, ?_⟩) hHeld ?_ ?_
   rotate_left
   ·rintro w' ⟨s0, s1, s2, s3, s4, s5, s6, s7, s8, s9, s10, s11⟩
    go_simp
    with_reducible rfl
   rotate_left
   ·simp only [Act.put, List.setIfInBounds_toArray, List.set_cons_zero, List.set_cons_succ, i64_w, i32_w]
    rfl
   refine one_ (i := 1) (N := some 24) #[true, true, true, false, false, false, false, false, false, false] rfl rfl (one_of HT_.out (by kernel_rfl)) (by decide) (fun K hK => ?_)
   refine goes_ Try.func19 (by kernel_rfl) rfl #[.agg #[.int .i64 a0_0, .int .i64 a0_1, .int .i64 a0_2, .slice A0_3 l0_3.length c0_3, .slice A0_4 l0_4.length c0_4, .slice A0_5 l0_5.length c0_5]] (by rfl) rfl rfl mpx9 ?_
   with_reducible refine (laws_toModel.calls k a0_0 a0_1 a0_2 _ _ l0_3 _ _ l0_4 _ _ l0_5 t286 t287 t288 t289 t292 t295 _ ?side1 ?side2 ?side3 ?side4 ?side5 ?side6 A19.out).mono ?_
   (case side1 => exact rCx9 (Kd.C_below HR0_3.out HB.out))
   (case side2 => exact HC0_3.out)
   (case side3 => exact rCx9 (Kd.C_below HR0_4.out HB.out))
   (case side4 => exact HC0_4.out)
   (case side5 => exact rCx9 (Kd.C_below HR0_5.out HB.out))
   (case side6 => exact HC0_5.out)
   rintro e w34 ⟨v290, v293, v296, rfl, ho0, ho1, ho2, hb⟩
   refine ⟨_, rfl, ?_⟩
   have n0_ := Aside0.mk (Kd.R_lower ho0 (below_size (be2x9 HB.out GE282.out GE283.out)))
   have n1_ := Aside0.mk (Kd.R_lower ho1 (below_size (be2x9 HB.out GE282.out GE283.out)))
   have n2_ := Aside0.mk (Kd.R_lower ho2 (below_size (be2x9 HB.out GE282.out GE283.out)))
   have n3_ := Aside0.mk (blk_below (g := gb282) (o := .cells #[.int .i64 a0_0, .int .i64 a0_1, .int .i64 a0_2, .slice A0_3 l0_3.length c0_3, .slice A0_4 l0_4.length c0_4, .slice A0_5 l0_5.length c0_5] 26 (0, 0)) (rBx9 BK282.out) hb)
   have n4_ := Aside0.mk (blk_below (g := gb283) (o := .cells #[.int .i64 a1_0, .int .i64 a1_1, .int .i64 a1_2, .slice A1_3 l1_3.length c1_3, .slice A1_4 l1_4.length c1_4, .slice A1_5 l1_5.length c1_5] 26 (0, 0)) (rBx9 BK283.out) hb)
   have n5_ := Aside0.mk (below_step (be2x9 HB.out GE282.out GE283.out) hb)
   clear BK282
   clear BK283
   clear HB
   have HO291 := n0_
   have HO294 := n1_
   have HO297 := n2_
   have BK282 := n3_
   have BK283 := n4_
   have HB := n5_
   clear n0_ n1_ n2_ n3_ n4_ n5_
   (try clear hb)
   (try clear hb2)
   (try clear hk)
   (try clear hi)
   (try clear ho0)
   (try clear ho1)
   (try clear ho2)
   refine hK.out _ _ (ca6x9 BK282.out (cc6x9 BK283.out)) (fun hHeld => ?_)
   clear hK K
   refine norm_ (a' := ?_) ?_ ?_
   rotate_left
   ·show Act.put _ (some 24) _ = _
    simp only [Act.put, List.setIfInBounds_toArray, List.set_cons_zero, List.set_cons_succ, i64_w, i32_w]
    rfl
   refine one_ (i := 3) (N := some 26) #[true, true, true, true, false, false, false, false, false, false] rfl rfl (one_of HT_.out (by kernel_rfl)) (by decide) (fun K hK => ?_)
   refine goes_ Try.func19 (by kernel_rfl) rfl #[.agg #[.int .i64 a1_0, .int .i64 a1_1, .int .i64 a1_2, .slice A1_3 l1_3.length c1_3, .slice A1_4 l1_4.length c1_4, .slice A1_5 l1_5.length c1_5]] (by rfl) rfl rfl mpx9 ?_
   with_reducible refine (laws_toModel.calls k a1_0 a1_1 a1_2 _ _ l1_3 _ _ l1_4 _ _ l1_5 t298 t299 t300 t301 t304 t307 _ ?side1 ?side2 ?side3 ?side4 ?side5 ?side6 A20.out).mono ?_
   (case side1 => exact rCx9 (Kd.C_below HR1_3.out HB.out))
   (case side2 => exact HC1_3.out)
   (case side3 => exact rCx9 (Kd.C_below HR1_4.out HB.out))
   (case side4 => exact HC1_4.out)
   (case side5 => exact rCx9 (Kd.C_below HR1_5.out HB.out))
   (case side6 => exact HC1_5.out)
   rintro e w35 ⟨v302, v305, v308, rfl, ho0, ho1, ho2, hb⟩
   refine ⟨_, rfl, ?_⟩
   have n0_ := Aside0.mk (kp3x9 (rRx9 HO291.out) hb ho0 ho1 ho2)
   have n1_ := Aside0.mk (kp3x9 (rRx9 HO294.out) hb ho0 ho1 ho2)
   have n2_ := Aside0.mk (kp3x9 (rRx9 HO297.out) hb ho0 ho1 ho2)
   have n3_ := Aside0.mk (Kd.R_lower (nwx9 (nwx9 (nwx9 ho0 (rRx9 HO291.out)) (rRx9 HO294.out)) (rRx9 HO297.out)) (below_size (be2x9 HB.out GE282.out GE283.out)))
   have n4_ := Aside0.mk (Kd.R_lower (nwx9 (nwx9 (nwx9 ho1 (rRx9 HO291.out)) (rRx9 HO294.out)) (rRx9 HO297.out)) (below_size (be2x9 HB.out GE282.out GE283.out)))
   have n5_ := Aside0.mk (Kd.R_lower (nwx9 (nwx9 (nwx9 ho2 (rRx9 HO291.out)) (rRx9 HO294.out)) (rRx9 HO297.out)) (below_size (be2x9 HB.out GE282.out GE283.out)))
   have n6_ := Aside0.mk (blk_below (g := gb282) (o := .cells #[.int .i64 a0_0, .int .i64 a0_1, .int .i64 a0_2, .slice A0_3 l0_3.length c0_3, .slice A0_4 l0_4.length c0_4, .slice A0_5 l0_5.length c0_5] 26 (0, 0)) (rBx9 BK282.out) hb)
   have n7_ := Aside0.mk (blk_below (g := gb283) (o := .cells #[.int .i64 a1_0, .int .i64 a1_1, .int .i64 a1_2, .slice A1_3 l1_3.length c1_3, .slice A1_4 l1_4.length c1_4, .slice A1_5 l1_5.length c1_5] 26 (0, 0)) (rBx9 BK283.out) hb)
   have n8_ := Aside0.mk (below_step (be2x9 HB.out GE282.out GE283.out) hb)
   clear HO291
   clear HO294
   clear HO297
   clear BK282
   clear BK283
   clear HB
   have HO291 := n0_
   have HO294 := n1_
   have HO297 := n2_
   have HO303 := n3_
   have HO306 := n4_
   have HO309 := n5_
   have BK282 := n6_
   have BK283 := n7_
   have HB := n8_
   clear n0_ n1_ n2_ n3_ n4_ n5_ n6_ n7_ n8_
   (try clear hb)
   (try clear hb2)
   (try clear hk)
   (try clear hi)
   (try clear ho0)
   (try clear ho1)
   (try clear ho2)
   obtain ⟨Ao36, co36, eo36⟩ := Kd.R_slice HO291.out
   (first | subst eo36 | (injection eo36 with f1_ f2_ f3_; have f4_ := f1_.symm; have f5_ := f3_.symm; clear f1_ f2_ f3_; subst f4_; subst f5_))
   obtain ⟨Ao37, co37, eo37⟩ := Kd.R_slice HO294.out
   (first | subst eo37 | (injection eo37 with f1_ f2_ f3_; have f4_ := f1_.symm; have f5_ := f3_.symm; clear f1_ f2_ f3_; subst f4_; subst f5_))
   obtain ⟨Ao38, co38, eo38⟩ := Kd.R_slice HO297.out
   (first | subst eo38 | (injection eo38 with f1_ f2_ f3_; have f4_ := f1_.symm; have f5_ := f3_.symm; clear f1_ f2_ f3_; subst f4_; subst f5_))
   obtain ⟨Ao39, co39, eo39⟩ := Kd.R_slice HO303.out
   (first | subst eo39 | (injection eo39 with f1_ f2_ f3_; have f4_ := f1_.symm; have f5_ := f3_.symm; clear f1_ f2_ f3_; subst f4_; subst f5_))
   obtain ⟨Ao40, co40, eo40⟩ := Kd.R_slice HO306.out
   (first | subst eo40 | (injection eo40 with f1_ f2_ f3_; have f4_ := f1_.symm; have f5_ := f3_.symm; clear f1_ f2_ f3_; subst f4_; subst f5_))
   obtain ⟨Ao41, co41, eo41⟩ := Kd.R_slice HO309.out
   (first | subst eo41 | (injection eo41 with f1_ f2_ f3_; have f4_ := f1_.symm; have f5_ := f3_.symm; clear f1_ f2_ f3_; subst f4_; subst f5_))
   refine hK.out _ _ (ca6x9 BK282.out (cc6x9 BK283.out)) (fun hHeld => ?_)
   clear hK K
   refine norm_ (a' := ?_) ?_ ?_
   rotate_left
   ·show Act.put _ (some 26) _ = _
    simp only [Act.put, List.setIfInBounds_toArray, List.set_cons_zero, List.set_cons_succ, i64_w, i32_w]
    rfl
   refine one_ (i := 4) (N := some 27) #[true, true, true, true, true, false, false, false, false, false] rfl rfl (one_of HT_.out (by kernel_rfl)) (by decide) (fun K hK => ?_)
   refine goes_ Try.func48 (by kernel_rfl) rfl #[.agg #[.int .i64 t286, .int .i64 t287, .int .i64 t288, .slice Ao36 t289.length co36, .slice Ao37 t292.length co37, .slice Ao38 t295.length co38], .agg #[.int .i64 t298, .int .i64 t299, .int .i64 t300, .slice Ao39 t301.length co39, .slice Ao40 t304.length co40, .slice Ao41 t307.length co41]] (by rfl) rfl rfl mpx9 ?_
   with_reducible refine (spec_WorstLevel.calls k t286 t287 t288 _ _ t289 _ _ t292 _ _ t295 t298 t299 t300 _ _ t301 _ _ t304 _ _ t307 t310 t311 _ ?side1 ?side2 ?side3 ?side4 ?side5 ?side6 ?side7 ?side8 ?side9 ?side10 ?side11 ?side12 A21.out).mono ?_
   (case side1 => exact cRx9 HO291.out)
   (case side2 => exact (Kd.R_reads' HO291.out).2.1)
   (case side3 => exact cRx9 HO294.out)
   (case side4 => exact (Kd.R_reads' HO294.out).2.1)
   (case side5 => exact cRx9 HO297.out)
   (case side6 => exact (Kd.R_reads' HO297.out).2.1)
   (case side7 => exact cRx9 HO303.out)
   (case side8 => exact (Kd.R_reads' HO303.out).2.1)
   (case side9 => exact cRx9 HO306.out)
   (case side10 => exact (Kd.R_reads' HO306.out).2.1)
   (case side11 => exact cRx9 HO309.out)
   (case side12 => exact (Kd.R_reads' HO309.out).2.1)
   rintro e w42 ⟨rfl, hb⟩
   refine ⟨_, rfl, ?_⟩
   have n0_ := Aside0.mk (Kd.R_below (rRx9 HO291.out) hb)
   have n1_ := Aside0.mk (Kd.R_below (rRx9 HO294.out) hb)
   have n2_ := Aside0.mk (Kd.R_below (rRx9 HO297.out) hb)
   have n3_ := Aside0.mk (Kd.R_below (rRx9 HO303.out) hb)
   have n4_ := Aside0.mk (Kd.R_below (rRx9 HO306.out) hb)
   have n5_ := Aside0.mk (Kd.R_below (rRx9 HO309.out) hb)
   have n6_ := Aside0.mk (blk_below (g := gb282) (o := .cells #[.int .i64 a0_0, .int .i64 a0_1, .int .i64 a0_2, .slice A0_3 l0_3.length c0_3, .slice A0_4 l0_4.length c0_4, .slice A0_5 l0_5.length c0_5] 26 (0, 0)) (rBx9 BK282.out) hb)
   have n7_ := Aside0.mk (blk_below (g := gb283) (o := .cells #[.int .i64 a1_0, .int .i64 a1_1, .int .i64 a1_2, .slice A1_3 l1_3.length c1_3, .slice A1_4 l1_4.length c1_4, .slice A1_5 l1_5.length c1_5] 26 (0, 0)) (rBx9 BK283.out) hb)
   have n8_ := Aside0.mk (below_step (be2x9 HB.out GE282.out GE283.out) hb)
   clear HO291
   clear HO294
   clear HO297
   clear HO303
   clear HO306
   clear HO309
   clear BK282
   clear BK283
   clear HB
   have HO291 := n0_
   have HO294 := n1_
   have HO297 := n2_
   have HO303 := n3_
   have HO306 := n4_
   have HO309 := n5_
   have BK282 := n6_
   have BK283 := n7_
   have HB := n8_
   clear n0_ n1_ n2_ n3_ n4_ n5_ n6_ n7_ n8_
   (try clear hb)
   (try clear hb2)
   (try clear hk)
   (try clear hi)
   refine hK.out _ _ (ca6x9 BK282.out (cc6x9 BK283.out)) (fun hHeld => ?_)
   clear hK K
   refine norm_ (a' := ?_) ?_ ?_
   rotate_left
   ·show Act.put _ (some 27) _ = _
    simp only [Act.put, List.setIfInBounds_toArray, List.set_cons_zero, List.set_cons_succ, i64_w, i32_w]
    rfl
   refine pure_ (i := 5) (N := some 22) (v := ?_) (a' := ?_) #[true, true, true, true, true, true, false, false, false, false] rfl rfl (any_of HT_.out (by kernel_rfl)) (fun _ _ _ h => h) (Or.inl ⟨by rfl, ?_⟩) ?_ ?_
   rotate_left
   ·intro w'
    go_simp
    with_reducible rfl
   rotate_left
   ·simp only [Act.put, List.setIfInBounds_toArray, List.set_cons_zero, List.set_cons_succ, i64_w, i32_w]
    rfl
   refine pure_ (i := 6) (N := some 28) (v := ?_) (a' := ?_) #[true, true, true, true, true, true, true, false, false, false] rfl rfl (any_of HT_.out (by kernel_rfl)) (fun _ _ _ h => h) (Or.inl ⟨by rfl, ?_⟩) ?_ ?_
   rotate_left
   ·intro w'
    go_simp
    with_reducible rfl
   rotate_left
   ·simp only [Act.put, List.setIfInBounds_toArray, List.set_cons_zero, List.set_cons_succ, i64_w, i32_w]
    rfl
   refine pure_ (i := 7) (N := some 29) (v := ?_) (a' := ?_) #[true, true, true, true, true, true, true, true, false, false] rfl rfl (any_of HT_.out (by kernel_rfl)) (fun _ _ _ h => h) (Or.inl ⟨by rfl, ?_⟩) ?_ ?_
   rotate_left
   ·intro w'
    go_simp
    with_reducible rfl
   rotate_left
   ·simp only [Act.put, List.setIfInBounds_toArray, List.set_cons_zero, List.set_cons_succ, i64_w, i32_w]
    rfl
   refine pure_ (i := 8) (N := some 6) (v := ?_) (a' := ?_) #[true, true, true, true, true, true, true, true, true, false] rfl rfl (any_of HT_.out (by kernel_rfl)) (fun _ _ _ h => h) (Or.inl ⟨by rfl, ?_⟩) ?_ ?_
   rotate_left
   ·intro w'
    go_simp
    with_reducible rfl
   rotate_left
   ·simp only [Act.put, List.setIfInBounds_toArray, List.set_cons_zero, List.set_cons_succ, i64_w, i32_w]
    rfl
   refine pure_ (i := 9) (N := some 7) (v := ?_) (a' := ?_) #[true, true, true, true, true, true, true, true, true, true] rfl rfl (any_of HT_.out (by kernel_rfl)) (fun _ _ _ h => h) (Or.inl ⟨by rfl, ?_⟩) ?_ ?_
   rotate_left
   ·intro w'
    go_simp
    with_reducible rfl
   rotate_left
   ·simp only [Act.put, List.setIfInBounds_toArray, List.set_cons_zero, List.set_cons_succ, i64_w, i32_w]
    rfl
   refine done_ (done_of HT_.out (by kernel_rfl)) ?_
   obtain ⟨hcz43_0, hcz43_1, hcz43_2, hcz43_3, hcz43_4, hcz43_5, hfz43_0, hfz43_1, hfz43_2, hfz43_3, hfz43_4, hfz43_5⟩ := cf6x9 BK282.out
   go_upto_region 12 with (first | ((with_reducible refine gate_callee (f := 19) rfl ?_); refine goesL_ (some 31) rfl rfl Try.func19 (by kernel_rfl) rfl #[.agg #[.int .i64 a0_0, .int .i64 a0_1, .int .i64 a0_2, .slice A0_3 l0_3.length c0_3, .slice A0_4 l0_4.length c0_4, .slice A0_5 l0_5.length c0_5]] rfl mpx9 ?_; (with_reducible refine (laws_toModel.calls k a0_0 a0_1 a0_2 _ _ l0_3 _ _ l0_4 _ _ l0_5 t312 t313 t314 t315 t318 t321 _ ?side1 ?side2 ?side3 ?side4 ?side5 ?side6 A22.out).mono ?_); (case side1 => exact rCx9 (Kd.C_below HR0_3.out HB.out)); (case side2 => exact HC0_3.out); (case side3 => exact rCx9 (Kd.C_below HR0_4.out HB.out)); (case side4 => exact HC0_4.out); (case side5 => exact rCx9 (Kd.C_below HR0_5.out HB.out)); (case side6 => exact HC0_5.out); rintro e w44 ⟨v316, v319, v322, rfl, ho0, ho1, ho2, hb⟩; refine ⟨_, rfl, ?_⟩; have HO317 := Aside0.mk (Kd.R_lower (nwx9 (nwx9 (nwx9 (nwx9 (nwx9 (nwx9 ho0 (rRx9 HO291.out)) (rRx9 HO294.out)) (rRx9 HO297.out)) (rRx9 HO303.out)) (rRx9 HO306.out)) (rRx9 HO309.out)) (below_size (be2x9 HB.out GE282.out GE283.out))); have HO320 := Aside0.mk (Kd.R_lower (nwx9 (nwx9 (nwx9 (nwx9 (nwx9 (nwx9 ho1 (rRx9 HO291.out)) (rRx9 HO294.out)) (rRx9 HO297.out)) (rRx9 HO303.out)) (rRx9 HO306.out)) (rRx9 HO309.out)) (below_size (be2x9 HB.out GE282.out GE283.out))); have HO323 := Aside0.mk (Kd.R_lower (nwx9 (nwx9 (nwx9 (nwx9 (nwx9 (nwx9 ho2 (rRx9 HO291.out)) (rRx9 HO294.out)) (rRx9 HO297.out)) (rRx9 HO303.out)) (rRx9 HO306.out)) (rRx9 HO309.out)) (below_size (be2x9 HB.out GE282.out GE283.out))); replace HO291 := Aside0.mk (kp3x9 (rRx9 HO291.out) hb ho0 ho1 ho2); replace HO294 := Aside0.mk (kp3x9 (rRx9 HO294.out) hb ho0 ho1 ho2); replace HO297 := Aside0.mk (kp3x9 (rRx9 HO297.out) hb ho0 ho1 ho2); replace HO303 := Aside0.mk (kp3x9 (rRx9 HO303.out) hb ho0 ho1 ho2); replace HO306 := Aside0.mk (kp3x9 (rRx9 HO306.out) hb ho0 ho1 ho2); replace HO309 := Aside0.mk (kp3x9 (rRx9 HO309.out) hb ho0 ho1 ho2); replace BK282 := Aside0.mk (blk_below (g := gb282) (o := .cells #[.int .i64 a0_0, .int .i64 a0_1, .int .i64 a0_2, .slice A0_3 l0_3.length c0_3, .slice A0_4 l0_4.length c0_4, .slice A0_5 l0_5.length c0_5] 26 (0, 0)) (rBx9 BK282.out) hb); replace BK283 := Aside0.mk (blk_below (g := gb283) (o := .cells #[.int .i64 a1_0, .int .i64 a1_1, .int .i64 a1_2, .slice A1_3 l1_3.length c1_3, .slice A1_4 l1_4.length c1_4, .slice A1_5 l1_5.length c1_5] 26 (0, 0)) (rBx9 BK283.out) hb); replace HB := Aside0.mk (below_step (be2x9 HB.out GE282.out GE283.out) hb); (try clear hb); (try clear hb2); (try clear hk); (try clear hi); (try clear ho0); (try clear ho1); (try clear ho2)) | ((with_reducible refine gate_dst (N := 8) rfl ?_); refine box_event ?hg (N := 8) ?hd (cs := #[.int .i64 0, .int .i64 0, .int .i64 0, .slice none 0 0, .slice none 0 0, .slice none 0 0]) (t := 41) ?hr ?_; (case hd => rfl); (case hg => rfl); (case hr => first | (go_simp; done) | (go_simp; rfl)); intro gb324 hg w45 hbox hb; replace HO291 := Aside0.mk (Kd.R_below (rRx9 HO291.out) hb); replace HO294 := Aside0.mk (Kd.R_below (rRx9 HO294.out) hb); replace HO297 := Aside0.mk (Kd.R_below (rRx9 HO297.out) hb); replace HO303 := Aside0.mk (Kd.R_below (rRx9 HO303.out) hb); replace HO306 := Aside0.mk (Kd.R_below (rRx9 HO306.out) hb); replace HO309 := Aside0.mk (Kd.R_below (rRx9 HO309.out) hb); replace HO317 := Aside0.mk (Kd.R_below (rRx9 HO317.out) hb); replace HO320 := Aside0.mk (Kd.R_below (rRx9 HO320.out) hb); replace HO323 := Aside0.mk (Kd.R_below (rRx9 HO323.out) hb); have BK324 := Aside0.mk (hbox); have GW324 := Aside0.mk ((by rw [hg]; exact (below_size (be2x9 HB.out GE282.out GE283.out)) : w.heap.size ≤ gb324)); have GE324 := Aside0.mk ((by rw [hg]; exact (below_size (be2x9 HB.out GE282.out GE283.out)) : w.heap.size ≤ gb324)); replace HB := Aside0.mk (below_step (be2x9 HB.out GE282.out GE283.out) hb); have NB282_324 := Aside0.mk ((by rw [hg]; exact Nat.ne_of_lt (blk_lt (g := gb282) (o := .cells #[.int .i64 a0_0, .int .i64 a0_1, .int .i64 a0_2, .slice A0_3 l0_3.length c0_3, .slice A0_4 l0_4.length c0_4, .slice A0_5 l0_5.length c0_5] 26 (0, 0)) (rBx9 BK282.out)) : gb282 ≠ gb324)); have NB324_282 := Aside0.mk ((by rw [hg]; exact Nat.ne_of_gt (blk_lt (g := gb282) (o := .cells #[.int .i64 a0_0, .int .i64 a0_1, .int .i64 a0_2, .slice A0_3 l0_3.length c0_3, .slice A0_4 l0_4.length c0_4, .slice A0_5 l0_5.length c0_5] 26 (0, 0)) (rBx9 BK282.out)) : gb324 ≠ gb282)); replace BK282 := Aside0.mk (blk_below (g := gb282) (o := .cells #[.int .i64 a0_0, .int .i64 a0_1, .int .i64 a0_2, .slice A0_3 l0_3.length c0_3, .slice A0_4 l0_4.length c0_4, .slice A0_5 l0_5.length c0_5] 26 (0, 0)) (rBx9 BK282.out) hb); have NB283_324 := Aside0.mk ((by rw [hg]; exact Nat.ne_of_lt (blk_lt (g := gb283) (o := .cells #[.int .i64 a1_0, .int .i64 a1_1, .int .i64 a1_2, .slice A1_3 l1_3.length c1_3, .slice A1_4 l1_4.length c1_4, .slice A1_5 l1_5.length c1_5] 26 (0, 0)) (rBx9 BK283.out)) : gb283 ≠ gb324)); have NB324_283 := Aside0.mk ((by rw [hg]; exact Nat.ne_of_gt (blk_lt (g := gb283) (o := .cells #[.int .i64 a1_0, .int .i64 a1_1, .int .i64 a1_2, .slice A1_3 l1_3.length c1_3, .slice A1_4 l1_4.length c1_4, .slice A1_5 l1_5.length c1_5] 26 (0, 0)) (rBx9 BK283.out)) : gb324 ≠ gb283)); replace BK283 := Aside0.mk (blk_below (g := gb283) (o := .cells #[.int .i64 a1_0, .int .i64 a1_1, .int .i64 a1_2, .slice A1_3 l1_3.length c1_3, .slice A1_4 l1_4.length c1_4, .slice A1_5 l1_5.length c1_5] 26 (0, 0)) (rBx9 BK283.out) hb); clear hb hbox hg; have hnb46 := NB324_282.out; have hnc46 := NB282_324.out; have hnb47 := NB324_283.out; have hnc47 := NB283_324.out; obtain ⟨hcz48_0, hcz48_1, hcz48_2, hcz48_3, hcz48_4, hcz48_5, hfz48_0, hfz48_1, hfz48_2, hfz48_3, hfz48_4, hfz48_5⟩ := cf6x9 BK324.out; obtain ⟨Ao49, co49, eo49⟩ := Kd.R_slice HO317.out; subst eo49; obtain ⟨Ao50, co50, eo50⟩ := Kd.R_slice HO320.out; subst eo50; obtain ⟨Ao51, co51, eo51⟩ := Kd.R_slice HO323.out; subst eo51; obtain ⟨hcz52_0, hcz52_1, hcz52_2, hcz52_3, hcz52_4, hcz52_5, hfz52_0, hfz52_1, hfz52_2, hfz52_3, hfz52_4, hfz52_5⟩ := cf6x9 BK283.out) | ((with_reducible refine gate_callee (f := 19) rfl ?_); refine goesL_ (some 33) rfl rfl Try.func19 (by kernel_rfl) rfl #[.agg #[.int .i64 a1_0, .int .i64 a1_1, .int .i64 a1_2, .slice A1_3 l1_3.length c1_3, .slice A1_4 l1_4.length c1_4, .slice A1_5 l1_5.length c1_5]] rfl mpx9 ?_; (with_reducible refine (laws_toModel.calls k a1_0 a1_1 a1_2 _ _ l1_3 _ _ l1_4 _ _ l1_5 t325 t326 t327 t328 t331 t334 _ ?side1 ?side2 ?side3 ?side4 ?side5 ?side6 A23.out).mono ?_); (case side1 => exact Kd.C_below HR1_3.out (be3x9 HB.out GE282.out GE283.out GE324.out)); (case side2 => exact HC1_3.out); (case side3 => exact Kd.C_below HR1_4.out (be3x9 HB.out GE282.out GE283.out GE324.out)); (case side4 => exact HC1_4.out); (case side5 => exact Kd.C_below HR1_5.out (be3x9 HB.out GE282.out GE283.out GE324.out)); (case side6 => exact HC1_5.out); rintro e w53 ⟨v329, v332, v335, rfl, ho0, ho1, ho2, hb⟩; refine ⟨_, rfl, ?_⟩; have HO330 := Aside0.mk (Kd.R_lower (nwx9 (nwx9 (nwx9 (nwx9 (nwx9 (nwx9 (nwx9 (nwx9 (nwx9 ho0 (sR6x9 HO291.out BK324.out)) (sR6x9 HO294.out BK324.out)) (sR6x9 HO297.out BK324.out)) (sR6x9 HO303.out BK324.out)) (sR6x9 HO306.out BK324.out)) (sR6x9 HO309.out BK324.out)) (sR6x9 HO317.out BK324.out)) (sR6x9 HO320.out BK324.out)) (sR6x9 HO323.out BK324.out)) (below_size (be3x9 HB.out GE282.out GE283.out GE324.out))); have HO333 := Aside0.mk (Kd.R_lower (nwx9 (nwx9 (nwx9 (nwx9 (nwx9 (nwx9 (nwx9 (nwx9 (nwx9 ho1 (sR6x9 HO291.out BK324.out)) (sR6x9 HO294.out BK324.out)) (sR6x9 HO297.out BK324.out)) (sR6x9 HO303.out BK324.out)) (sR6x9 HO306.out BK324.out)) (sR6x9 HO309.out BK324.out)) (sR6x9 HO317.out BK324.out)) (sR6x9 HO320.out BK324.out)) (sR6x9 HO323.out BK324.out)) (below_size (be3x9 HB.out GE282.out GE283.out GE324.out))); have HO336 := Aside0.mk (Kd.R_lower (nwx9 (nwx9 (nwx9 (nwx9 (nwx9 (nwx9 (nwx9 (nwx9 (nwx9 ho2 (sR6x9 HO291.out BK324.out)) (sR6x9 HO294.out BK324.out)) (sR6x9 HO297.out BK324.out)) (sR6x9 HO303.out BK324.out)) (sR6x9 HO306.out BK324.out)) (sR6x9 HO309.out BK324.out)) (sR6x9 HO317.out BK324.out)) (sR6x9 HO320.out BK324.out)) (sR6x9 HO323.out BK324.out)) (below_size (be3x9 HB.out GE282.out GE283.out GE324.out))); replace HO291 := Aside0.mk (kp3x9 (sR6x9 HO291.out BK324.out) hb ho0 ho1 ho2); replace HO294 := Aside0.mk (kp3x9 (sR6x9 HO294.out BK324.out) hb ho0 ho1 ho2); replace HO297 := Aside0.mk (kp3x9 (sR6x9 HO297.out BK324.out) hb ho0 ho1 ho2); replace HO303 := Aside0.mk (kp3x9 (sR6x9 HO303.out BK324.out) hb ho0 ho1 ho2); replace HO306 := Aside0.mk (kp3x9 (sR6x9 HO306.out BK324.out) hb ho0 ho1 ho2); replace HO309 := Aside0.mk (kp3x9 (sR6x9 HO309.out BK324.out) hb ho0 ho1 ho2); replace HO317 := Aside0.mk (kp3x9 (sR6x9 HO317.out BK324.out) hb ho0 ho1 ho2); replace HO320 := Aside0.mk (kp3x9 (sR6x9 HO320.out BK324.out) hb ho0 ho1 ho2); replace HO323 := Aside0.mk (kp3x9 (sR6x9 HO323.out BK324.out) hb ho0 ho1 ho2); replace BK282 := Aside0.mk (blk_below (g := gb282) (o := .cells #[.int .i64 a0_0, .int .i64 a0_1, .int .i64 a0_2, .slice A0_3 l0_3.length c0_3, .slice A0_4 l0_4.length c0_4, .slice A0_5 l0_5.length c0_5] 26 (0, 0)) (bb6x9 BK282.out NB282_324.out) hb); replace BK283 := Aside0.mk (blk_below (g := gb283) (o := .cells #[.int .i64 a1_0, .int .i64 a1_1, .int .i64 a1_2, .slice A1_3 l1_3.length c1_3, .slice A1_4 l1_4.length c1_4, .slice A1_5 l1_5.length c1_5] 26 (0, 0)) (bb6x9 BK283.out NB283_324.out) hb); replace BK324 := Aside0.mk (blk_below (g := gb324) (o := .cells #[.int .i64 t312, .int .i64 t313, .int .i64 t314, .slice Ao49 t315.length co49, .slice Ao50 t318.length co50, .slice Ao51 t321.length co51] 41 (0, 0)) (by (with_reducible repeat (first | refine blk_drewN ?_ _ | refine blk_drew ?_ | refine blk_alloc ?_ _)); refine blk_put (cs := #[.int .i64 t312, .int .i64 t313, .int .i64 t314, .slice Ao49 t315.length co49, .slice Ao50 t318.length co50, .slice none 0 0]) ?_ 5 _ rfl; (with_reducible repeat (first | refine blk_drewN ?_ _ | refine blk_drew ?_ | refine blk_alloc ?_ _)); refine blk_put (cs := #[.int .i64 t312, .int .i64 t313, .int .i64 t314, .slice Ao49 t315.length co49, .slice none 0 0, .slice none 0 0]) ?_ 4 _ rfl; (with_reducible repeat (first | refine blk_drewN ?_ _ | refine blk_drew ?_ | refine blk_alloc ?_ _)); refine blk_put (cs := #[.int .i64 t312, .int .i64 t313, .int .i64 t314, .slice none 0 0, .slice none 0 0, .slice none 0 0]) ?_ 3 _ rfl; (with_reducible repeat (first | refine blk_drewN ?_ _ | refine blk_drew ?_ | refine blk_alloc ?_ _)); refine blk_put (cs := #[.int .i64 t312, .int .i64 t313, .int .i64 0, .slice none 0 0, .slice none 0 0, .slice none 0 0]) ?_ 2 _ rfl; (with_reducible repeat (first | refine blk_drewN ?_ _ | refine blk_drew ?_ | refine blk_alloc ?_ _)); refine blk_put (cs := #[.int .i64 t312, .int .i64 0, .int .i64 0, .slice none 0 0, .slice none 0 0, .slice none 0 0]) ?_ 1 _ rfl; (with_reducible repeat (first | refine blk_drewN ?_ _ | refine blk_drew ?_ | refine blk_alloc ?_ _)); refine blk_put (cs := #[.int .i64 0, .int .i64 0, .int .i64 0, .slice none 0 0, .slice none 0 0, .slice none 0 0]) ?_ 0 _ rfl; (with_reducible repeat (first | refine blk_drewN ?_ _ | refine blk_drew ?_ | refine blk_alloc ?_ _)); exact BK324.out) hb); replace HB := Aside0.mk (below_step (be3x9 HB.out GE282.out GE283.out GE324.out) hb); (try clear hb); (try clear hb2); (try clear hk); (try clear hi); (try clear ho0); (try clear ho1); (try clear ho2)) | ((with_reducible refine gate_dst (N := 9) rfl ?_); refine box_event ?hg (N := 9) ?hd (cs := #[.int .i64 0, .int .i64 0, .int .i64 0, .slice none 0 0, .slice none 0 0, .slice none 0 0]) (t := 41) ?hr ?_; (case hd => rfl); (case hg => rfl); (case hr => first | (go_simp; done) | (go_simp; rfl)); intro gb337 hg w54 hbox hb; replace HO291 := Aside0.mk (Kd.R_below (rRx9 HO291.out) hb); replace HO294 := Aside0.mk (Kd.R_below (rRx9 HO294.out) hb); replace HO297 := Aside0.mk (Kd.R_below (rRx9 HO297.out) hb); replace HO303 := Aside0.mk (Kd.R_below (rRx9 HO303.out) hb); replace HO306 := Aside0.mk (Kd.R_below (rRx9 HO306.out) hb); replace HO309 := Aside0.mk (Kd.R_below (rRx9 HO309.out) hb); replace HO317 := Aside0.mk (Kd.R_below (rRx9 HO317.out) hb); replace HO320 := Aside0.mk (Kd.R_below (rRx9 HO320.out) hb); replace HO323 := Aside0.mk (Kd.R_below (rRx9 HO323.out) hb); replace HO330 := Aside0.mk (Kd.R_below (rRx9 HO330.out) hb); replace HO333 := Aside0.mk (Kd.R_below (rRx9 HO333.out) hb); replace HO336 := Aside0.mk (Kd.R_below (rRx9 HO336.out) hb); have BK337 := Aside0.mk (hbox); have GW337 := Aside0.mk ((by rw [hg]; exact (below_size (be3x9 HB.out GE282.out GE283.out GE324.out)) : w.heap.size ≤ gb337)); have GE337 := Aside0.mk ((by rw [hg]; exact (below_size (be3x9 HB.out GE282.out GE283.out GE324.out)) : w.heap.size ≤ gb337)); replace HB := Aside0.mk (below_step (be3x9 HB.out GE282.out GE283.out GE324.out) hb); have NB282_337 := Aside0.mk ((by rw [hg]; exact Nat.ne_of_lt (blk_lt (g := gb282) (o := .cells #[.int .i64 a0_0, .int .i64 a0_1, .int .i64 a0_2, .slice A0_3 l0_3.length c0_3, .slice A0_4 l0_4.length c0_4, .slice A0_5 l0_5.length c0_5] 26 (0, 0)) (rBx9 BK282.out)) : gb282 ≠ gb337)); have NB337_282 := Aside0.mk ((by rw [hg]; exact Nat.ne_of_gt (blk_lt (g := gb282) (o := .cells #[.int .i64 a0_0, .int .i64 a0_1, .int .i64 a0_2, .slice A0_3 l0_3.length c0_3, .slice A0_4 l0_4.length c0_4, .slice A0_5 l0_5.length c0_5] 26 (0, 0)) (rBx9 BK282.out)) : gb337 ≠ gb282)); replace BK282 := Aside0.mk (blk_below (g := gb282) (o := .cells #[.int .i64 a0_0, .int .i64 a0_1, .int .i64 a0_2, .slice A0_3 l0_3.length c0_3, .slice A0_4 l0_4.length c0_4, .slice A0_5 l0_5.length c0_5] 26 (0, 0)) (rBx9 BK282.out) hb); have NB283_337 := Aside0.mk ((by rw [hg]; exact Nat.ne_of_lt (blk_lt (g := gb283) (o := .cells #[.int .i64 a1_0, .int .i64 a1_1, .int .i64 a1_2, .slice A1_3 l1_3.length c1_3, .slice A1_4 l1_4.length c1_4, .slice A1_5 l1_5.length c1_5] 26 (0, 0)) (rBx9 BK283.out)) : gb283 ≠ gb337)); have NB337_283 := Aside0.mk ((by rw [hg]; exact Nat.ne_of_gt (blk_lt (g := gb283) (o := .cells #[.int .i64 a1_0, .int .i64 a1_1, .int .i64 a1_2, .slice A1_3 l1_3.length c1_3, .slice A1_4 l1_4.length c1_4, .slice A1_5 l1_5.length c1_5] 26 (0, 0)) (rBx9 BK283.out)) : gb337 ≠ gb283)); replace BK283 := Aside0.mk (blk_below (g := gb283) (o := .cells #[.int .i64 a1_0, .int .i64 a1_1, .int .i64 a1_2, .slice A1_3 l1_3.length c1_3, .slice A1_4 l1_4.length c1_4, .slice A1_5 l1_5.length c1_5] 26 (0, 0)) (rBx9 BK283.out) hb); have NB324_337 := Aside0.mk ((by rw [hg]; exact Nat.ne_of_lt (blk_lt (g := gb324) (o := .cells #[.int .i64 t312, .int .i64 t313, .int .i64 t314, .slice Ao49 t315.length co49, .slice Ao50 t318.length co50, .slice Ao51 t321.length co51] 41 (0, 0)) (rBx9 BK324.out)) : gb324 ≠ gb337)); have NB337_324 := Aside0.mk ((by rw [hg]; exact Nat.ne_of_gt (blk_lt (g := gb324) (o := .cells #[.int .i64 t312, .int .i64 t313, .int .i64 t314, .slice Ao49 t315.length co49, .slice Ao50 t318.length co50, .slice Ao51 t321.length co51] 41 (0, 0)) (rBx9 BK324.out)) : gb337 ≠ gb324)); replace BK324 := Aside0.mk (blk_below (g := gb324) (o := .cells #[.int .i64 t312, .int .i64 t313, .int .i64 t314, .slice Ao49 t315.length co49, .slice Ao50 t318.length co50, .slice Ao51 t321.length co51] 41 (0, 0)) (rBx9 BK324.out) hb); clear hb hbox hg; have hnb55 := NB337_282.out; have hnc55 := NB282_337.out; have hnb56 := NB337_283.out; have hnc56 := NB283_337.out; have hnb57 := NB337_324.out; have hnc57 := NB324_337.out; obtain ⟨hcz58_0, hcz58_1, hcz58_2, hcz58_3, hcz58_4, hcz58_5, hfz58_0, hfz58_1, hfz58_2, hfz58_3, hfz58_4, hfz58_5⟩ := cf6x9 BK337.out; obtain ⟨Ao59, co59, eo59⟩ := Kd.R_slice HO330.out; subst eo59; obtain ⟨Ao60, co60, eo60⟩ := Kd.R_slice HO333.out; subst eo60; obtain ⟨Ao61, co61, eo61⟩ := Kd.R_slice HO336.out; subst eo61; obtain ⟨hcz62_0, hcz62_1, hcz62_2, hcz62_3, hcz62_4, hcz62_5, hfz62_0, hfz62_1, hfz62_2, hfz62_3, hfz62_4, hfz62_5⟩ := cf6x9 BK324.out) | ((with_reducible refine gate_callee (f := 49) rfl ?_); refine goesL_ (some 37) rfl rfl Try.func49 (by kernel_rfl) rfl #[.agg #[.int .i64 t312, .int .i64 t313, .int .i64 t314, .slice Ao49 t315.length co49, .slice Ao50 t318.length co50, .slice Ao51 t321.length co51], .agg #[.int .i64 t325, .int .i64 t326, .int .i64 t327, .slice Ao59 t328.length co59, .slice Ao60 t331.length co60, .slice Ao61 t334.length co61]] rfl mpx9 ?_; (with_reducible refine (impl_WorstLevel.calls k t312 t313 t314 _ _ t315 _ _ t318 _ _ t321 t325 t326 t327 _ _ t328 _ _ t331 _ _ t334 t338 t339 _ ?side1 ?side2 ?side3 ?side4 ?side5 ?side6 ?side7 ?side8 ?side9 ?side10 ?side11 ?side12 A24.out).mono ?_); (case side1 => exact cS6x9 HO317.out BK337.out); (case side2 => exact (Kd.R_reads' HO317.out).2.1); (case side3 => exact cS6x9 HO320.out BK337.out); (case side4 => exact (Kd.R_reads' HO320.out).2.1); (case side5 => exact cS6x9 HO323.out BK337.out); (case side6 => exact (Kd.R_reads' HO323.out).2.1); (case side7 => exact cS6x9 HO330.out BK337.out); (case side8 => exact (Kd.R_reads' HO330.out).2.1); (case side9 => exact cS6x9 HO333.out BK337.out); (case side10 => exact (Kd.R_reads' HO333.out).2.1); (case side11 => exact cS6x9 HO336.out BK337.out); (case side12 => exact (Kd.R_reads' HO336.out).2.1); rintro e w63 ⟨rfl, hb⟩; refine ⟨_, rfl, ?_⟩; replace HO291 := Aside0.mk (Kd.R_below (sR6x9 HO291.out BK337.out) hb); replace HO294 := Aside0.mk (Kd.R_below (sR6x9 HO294.out BK337.out) hb); replace HO297 := Aside0.mk (Kd.R_below (sR6x9 HO297.out BK337.out) hb); replace HO303 := Aside0.mk (Kd.R_below (sR6x9 HO303.out BK337.out) hb); replace HO306 := Aside0.mk (Kd.R_below (sR6x9 HO306.out BK337.out) hb); replace HO309 := Aside0.mk (Kd.R_below (sR6x9 HO309.out BK337.out) hb); replace HO317 := Aside0.mk (Kd.R_below (sR6x9 HO317.out BK337.out) hb); replace HO320 := Aside0.mk (Kd.R_below (sR6x9 HO320.out BK337.out) hb); replace HO323 := Aside0.mk (Kd.R_below (sR6x9 HO323.out BK337.out) hb); replace HO330 := Aside0.mk (Kd.R_below (sR6x9 HO330.out BK337.out) hb); replace HO333 := Aside0.mk (Kd.R_below (sR6x9 HO333.out BK337.out) hb); replace HO336 := Aside0.mk (Kd.R_below (sR6x9 HO336.out BK337.out) hb); replace BK282 := Aside0.mk (blk_below (g := gb282) (o := .cells #[.int .i64 a0_0, .int .i64 a0_1, .int .i64 a0_2, .slice A0_3 l0_3.length c0_3, .slice A0_4 l0_4.length c0_4, .slice A0_5 l0_5.length c0_5] 26 (0, 0)) (bb6x9 BK282.out NB282_337.out) hb); replace BK283 := Aside0.mk (blk_below (g := gb283) (o := .cells #[.int .i64 a1_0, .int .i64 a1_1, .int .i64 a1_2, .slice A1_3 l1_3.length c1_3, .slice A1_4 l1_4.length c1_4, .slice A1_5 l1_5.length c1_5] 26 (0, 0)) (bb6x9 BK283.out NB283_337.out) hb); replace BK324 := Aside0.mk (blk_below (g := gb324) (o := .cells #[.int .i64 t312, .int .i64 t313, .int .i64 t314, .slice Ao49 t315.length co49, .slice Ao50 t318.length co50, .slice Ao51 t321.length co51] 41 (0, 0)) (bb6x9 BK324.out NB324_337.out) hb); replace BK337 := Aside0.mk (blk_below (g := gb337) (o := .cells #[.int .i64 t325, .int .i64 t326, .int .i64 t327, .slice Ao59 t328.length co59, .slice Ao60 t331.length co60, .slice Ao61 t334.length co61] 41 (0, 0)) (by (with_reducible repeat (first | refine blk_drewN ?_ _ | refine blk_drew ?_ | refine blk_alloc ?_ _)); refine blk_put (cs := #[.int .i64 t325, .int .i64 t326, .int .i64 t327, .slice Ao59 t328.length co59, .slice Ao60 t331.length co60, .slice none 0 0]) ?_ 5 _ rfl; (with_reducible repeat (first | refine blk_drewN ?_ _ | refine blk_drew ?_ | refine blk_alloc ?_ _)); refine blk_put (cs := #[.int .i64 t325, .int .i64 t326, .int .i64 t327, .slice Ao59 t328.length co59, .slice none 0 0, .slice none 0 0]) ?_ 4 _ rfl; (with_reducible repeat (first | refine blk_drewN ?_ _ | refine blk_drew ?_ | refine blk_alloc ?_ _)); refine blk_put (cs := #[.int .i64 t325, .int .i64 t326, .int .i64 t327, .slice none 0 0, .slice none 0 0, .slice none 0 0]) ?_ 3 _ rfl; (with_reducible repeat (first | refine blk_drewN ?_ _ | refine blk_drew ?_ | refine blk_alloc ?_ _)); refine blk_put (cs := #[.int .i64 t325, .int .i64 t326, .int .i64 0, .slice none 0 0, .slice none 0 0, .slice none 0 0]) ?_ 2 _ rfl; (with_reducible repeat (first | refine blk_drewN ?_ _ | refine blk_drew ?_ | refine blk_alloc ?_ _)); refine blk_put (cs := #[.int .i64 t325, .int .i64 0, .int .i64 0, .slice none 0 0, .slice none 0 0, .slice none 0 0]) ?_ 1 _ rfl; (with_reducible repeat (first | refine blk_drewN ?_ _ | refine blk_drew ?_ | refine blk_alloc ?_ _)); refine blk_put (cs := #[.int .i64 0, .int .i64 0, .int .i64 0, .slice none 0 0, .slice none 0 0, .slice none 0 0]) ?_ 0 _ rfl; (with_reducible repeat (first | refine blk_drewN ?_ _ | refine blk_drew ?_ | refine blk_alloc ?_ _)); exact BK337.out) hb); replace HB := Aside0.mk (below_step (be4x9 HB.out GE282.out GE283.out GE324.out GE337.out) hb); (try clear hb); (try clear hb2); (try clear hk); (try clear hi)))
   (try simp only [Act.put, List.setIfInBounds_toArray, List.set_cons_zero, List.set_cons_succ])
   go_cut [47] (fun v47 wc => ∃ (kq : Nat) (x47_24 : Bool), v47 = .bool x47_24 ∧ Aside0 (laws_FnExactWorstLevel.j0 kq x47_24 a0_0 a0_1 a0_2 l0_3 l0_4 l0_5 a1_0 a1_1 a1_2 l1_3 l1_4 l1_5 t312 t313 t314 t315 t318 t321 t325 t326 t327 t328 t331 t334 = some r) ∧ Aside0 (kq ≤ k) ∧ Aside0 (Kd.R (Kd.int .i64) 3 wc w.heap.size (fun k_ => some k_ ≠ ((.slice Ao50 t318.length co50) : Value).ownBlock ∧ some k_ ≠ ((.slice Ao51 t321.length co51) : Value).ownBlock ∧ some k_ ≠ ((.slice Ao59 t328.length co59) : Value).ownBlock ∧ some k_ ≠ ((.slice Ao60 t331.length co60) : Value).ownBlock ∧ some k_ ≠ ((.slice Ao61 t334.length co61) : Value).ownBlock) (.slice Ao49 t315.length co49) t315) ∧ Aside0 (Kd.R (Kd.int .i64) 3 wc w.heap.size (fun k_ => some k_ ≠ ((.slice Ao49 t315.length co49) : Value).ownBlock ∧ some k_ ≠ ((.slice Ao51 t321.length co51) : Value).ownBlock ∧ some k_ ≠ ((.slice Ao59 t328.length co59) : Value).ownBlock ∧ some k_ ≠ ((.slice Ao60 t331.length co60) : Value).ownBlock ∧ some k_ ≠ ((.slice Ao61 t334.length co61) : Value).ownBlock) (.slice Ao50 t318.length co50) t318) ∧ Aside0 (Kd.R (Kd.int .i64) 3 wc w.heap.size (fun k_ => some k_ ≠ ((.slice Ao49 t315.length co49) : Value).ownBlock ∧ some k_ ≠ ((.slice Ao50 t318.length co50) : Value).ownBlock ∧ some k_ ≠ ((.slice Ao59 t328.length co59) : Value).ownBlock ∧ some k_ ≠ ((.slice Ao60 t331.length co60) : Value).ownBlock ∧ some k_ ≠ ((.slice Ao61 t334.length co61) : Value).ownBlock) (.slice Ao51 t321.length co51) t321) ∧ Aside0 (Kd.R (Kd.int .i64) 3 wc w.heap.size (fun k_ => some k_ ≠ ((.slice Ao49 t315.length co49) : Value).ownBlock ∧ some k_ ≠ ((.slice Ao50 t318.length co50) : Value).ownBlock ∧ some k_ ≠ ((.slice Ao51 t321.length co51) : Value).ownBlock ∧ some k_ ≠ ((.slice Ao60 t331.length co60) : Value).ownBlock ∧ some k_ ≠ ((.slice Ao61 t334.length co61) : Value).ownBlock) (.slice Ao59 t328.length co59) t328) ∧ Aside0 (Kd.R (Kd.int .i64) 3 wc w.heap.size (fun k_ => some k_ ≠ ((.slice Ao49 t315.length co49) : Value).ownBlock ∧ some k_ ≠ ((.slice Ao50 t318.length co50) : Value).ownBlock ∧ some k_ ≠ ((.slice Ao51 t321.length co51) : Value).ownBlock ∧ some k_ ≠ ((.slice Ao59 t328.length co59) : Value).ownBlock ∧ some k_ ≠ ((.slice Ao61 t334.length co61) : Value).ownBlock) (.slice Ao60 t331.length co60) t331) ∧ Aside0 (Kd.R (Kd.int .i64) 3 wc w.heap.size (fun k_ => some k_ ≠ ((.slice Ao49 t315.length co49) : Value).ownBlock ∧ some k_ ≠ ((.slice Ao50 t318.length co50) : Value).ownBlock ∧ some k_ ≠ ((.slice Ao51 t321.length co51) : Value).ownBlock ∧ some k_ ≠ ((.slice Ao59 t328.length co59) : Value).ownBlock ∧ some k_ ≠ ((.slice Ao60 t331.length co60) : Value).ownBlock) (.slice Ao61 t334.length co61) t334) ∧ Aside0 (wc.heap[gb282]? = some (.cells #[.int .i64 a0_0, .int .i64 a0_1, .int .i64 a0_2, (.slice A0_3 l0_3.length c0_3), (.slice A0_4 l0_4.length c0_4), (.slice A0_5 l0_5.length c0_5)] 26 (0, 0))) ∧ Aside0 (wc.heap[gb283]? = some (.cells #[.int .i64 a1_0, .int .i64 a1_1, .int .i64 a1_2, (.slice A1_3 l1_3.length c1_3), (.slice A1_4 l1_4.length c1_4), (.slice A1_5 l1_5.length c1_5)] 26 (0, 0))) ∧ Aside0 (wc.heap[gb324]? = some (.cells #[.int .i64 t312, .int .i64 t313, .int .i64 t314, (.slice Ao49 t315.length co49), (.slice Ao50 t318.length co50), (.slice Ao51 t321.length co51)] 41 (0, 0))) ∧ Aside0 (wc.heap[gb337]? = some (.cells #[.int .i64 t325, .int .i64 t326, .int .i64 t327, (.slice Ao59 t328.length co59), (.slice Ao60 t331.length co60), (.slice Ao61 t334.length co61)] 41 (0, 0))) ∧ Aside0 (Below w.heap.size w wc))
   case first =>
    have H := HC25.out
    clear HC25
    by_cases c64 : t338 = t310
    ·rw [if_pos c64] at H
     have c64b0 : (t338 == t310) = true := beq_iff_eq.mpr c64
     have c64b1 : (t338 != t310) = false := bne_eq_false_iff_eq.mpr c64
     clear c64
     (first | rw [c64b0] | (simp only [i64_w, i32_w]; rw [c64b0]) | skip)
     have H' := Aside0.mk H
     clear H
     go_wp2
     go_meet
     case rel => exact ⟨_, ((t339 != t311)), (by first | rfl | (simp; done) | (simp [*]; done)), H', ⟨by first | omega | exact Nat.le_refl _⟩, ⟨by exact rRx9 (mox9 HO317.out)⟩, ⟨by exact rRx9 (mox9 HO320.out)⟩, ⟨by exact rRx9 (mox9 HO323.out)⟩, ⟨by exact rRx9 (mox9 HO330.out)⟩, ⟨by exact rRx9 (mox9 HO333.out)⟩, ⟨by exact rRx9 (mox9 HO336.out)⟩, ⟨rBx9 BK282.out⟩, ⟨rBx9 BK283.out⟩, ⟨rBx9 BK324.out⟩, ⟨rBx9 BK337.out⟩, ⟨be4x9 HB.out GE282.out GE283.out GE324.out GE337.out⟩⟩
    ·rw [if_neg c64] at H
     have c64b0 : (t338 == t310) = false := beq_eq_false_iff_ne.mpr c64
     have c64b1 : (t338 != t310) = true := bne_iff_ne.mpr c64
     (first | rw [c64b0] | (simp only [i64_w, i32_w]; rw [c64b0]) | skip)
     have H' := Aside0.mk H
     clear H
     go_wp2
     go_meet
     case rel => exact ⟨_, (true), (by first | rfl | (simp; done) | (simp [*]; done)), H', ⟨by first | omega | exact Nat.le_refl _⟩, ⟨by exact rRx9 (mox9 HO317.out)⟩, ⟨by exact rRx9 (mox9 HO320.out)⟩, ⟨by exact rRx9 (mox9 HO323.out)⟩, ⟨by exact rRx9 (mox9 HO330.out)⟩, ⟨by exact rRx9 (mox9 HO333.out)⟩, ⟨by exact rRx9 (mox9 HO336.out)⟩, ⟨rBx9 BK282.out⟩, ⟨rBx9 BK283.out⟩, ⟨rBx9 BK324.out⟩, ⟨rBx9 BK337.out⟩, ⟨be4x9 HB.out GE282.out GE283.out GE324.out GE337.out⟩⟩
   case rest =>
    clear HC25
    try clear c4; try clear c4b0; try clear c11; try clear c11b0; try clear c64; try clear c64b0; try clear c64b1; try clear hcz15_0 hcz15_1 hcz15_2 hcz15_3 hcz15_4 hcz15_5; try clear hcz17_0 hcz17_1 hcz17_2 hcz17_3 hcz17_4 hcz17_5; try clear hcz29_0 hcz29_1 hcz29_2 hcz29_3 hcz29_4 hcz29_5; try clear hcz31_0 hcz31_1 hcz31_2 hcz31_3 hcz31_4 hcz31_5; try clear hcz43_0 hcz43_1 hcz43_2 hcz43_3 hcz43_4 hcz43_5; try clear hcz48_0 hcz48_1 hcz48_2 hcz48_3 hcz48_4 hcz48_5; try clear hcz52_0 hcz52_1 hcz52_2 hcz52_3 hcz52_4 hcz52_5; try clear hcz58_0 hcz58_1 hcz58_2 hcz58_3 hcz58_4 hcz58_5; try clear hcz62_0 hcz62_1 hcz62_2 hcz62_3 hcz62_4 hcz62_5; try clear hcz8_0 hcz8_1 hcz8_2 hcz8_3 hcz8_4 hcz8_5; try clear hfz15_0 hfz15_1 hfz15_2 hfz15_3 hfz15_4 hfz15_5; try clear hfz17_0 hfz17_1 hfz17_2 hfz17_3 hfz17_4 hfz17_5; try clear hfz29_0 hfz29_1 hfz29_2 hfz29_3 hfz29_4 hfz29_5; try clear hfz31_0 hfz31_1 hfz31_2 hfz31_3 hfz31_4 hfz31_5; try clear hfz43_0 hfz43_1 hfz43_2 hfz43_3 hfz43_4 hfz43_5; try clear hfz48_0 hfz48_1 hfz48_2 hfz48_3 hfz48_4 hfz48_5; try clear hfz52_0 hfz52_1 hfz52_2 hfz52_3 hfz52_4 hfz52_5; try clear hfz58_0 hfz58_1 hfz58_2 hfz58_3 hfz58_4 hfz58_5; try clear hfz62_0 hfz62_1 hfz62_2 hfz62_3 hfz62_4 hfz62_5; try clear hfz8_0 hfz8_1 hfz8_2 hfz8_3 hfz8_4 hfz8_5
    obtain ⟨kq, x47_24, rfl, HA, HJ24, HO_325003, HO_325004, HO_325005, HO_338003, HO_338004, HO_338005, BK282, BK283, BK324, BK337, HB⟩ := hcut
    cases kq with
    | zero => exact absurd HA.out (by simp [laws_FnExactWorstLevel.j0])
    | succ kj24 =>
     have H := HA.out
     clear HA
     simp only [laws_FnExactWorstLevel.j0] at H
     by_cases c65 : x47_24 = true
     ·subst c65
      have H1 : (some false) = some r := by rw [if_pos rfl] at H; exact H
      clear H
      have H := H1
      clear H1
      obtain rfl := Option.some.inj H
      go_wp2
      go_ret
      exact ⟨by first | rfl | (simp [errW_none, errW_some] <;> rfl) | (simp [*, errW_none, errW_some] <;> rfl), be4x9 HB.out GE282.out GE283.out GE324.out GE337.out⟩
     ·replace c65 := Bool.eq_false_iff.mpr c65
      subst c65
      have H1 : ((laws_toModel.f kj24 a0_0 a0_1 a0_2 l0_3 l0_4 l0_5).bind fun bt340 => ((laws_eqModel.f kj24 t312 t313 t314 t315 t318 t321 bt340.1 bt340.2.1 bt340.2.2.1 bt340.2.2.2.1 bt340.2.2.2.2.1 bt340.2.2.2.2.2).bind fun t352 => (if t352 = true then ((laws_toModel.f kj24 a1_0 a1_1 a1_2 l1_3 l1_4 l1_5).bind fun bt353 => ((laws_eqModel.f kj24 t325 t326 t327 t328 t331 t334 bt353.1 bt353.2.1 bt353.2.2.1 bt353.2.2.2.1 bt353.2.2.2.2.1 bt353.2.2.2.2.2).bind fun t365 => (if t365 = true then (some true) else (some false)))) else (some false)))) = some r := by rw [if_neg (show ¬ (false = true) by decide)] at H; exact H
      clear H
      have H := H1
      clear H1
      replace H := Option.bind_eq_some_iff.mp H
      obtain ⟨⟨t340, t341, t342, t343, t346, t349⟩, A660, H⟩ := H
      (try dsimp only at H)
      have A66 := Aside0.mk A660
      clear A660
      replace H := Option.bind_eq_some_iff.mp H
      obtain ⟨t352, A670, H⟩ := H
      have A67 := Aside0.mk A670
      clear A670
      by_cases c68 : t352 = true
      ·subst c68
       have H1 : ((laws_toModel.f kj24 a1_0 a1_1 a1_2 l1_3 l1_4 l1_5).bind fun bt353 => ((laws_eqModel.f kj24 t325 t326 t327 t328 t331 t334 bt353.1 bt353.2.1 bt353.2.2.1 bt353.2.2.2.1 bt353.2.2.2.2.1 bt353.2.2.2.2.2).bind fun t365 => (if t365 = true then (some true) else (some false)))) = some r := by rw [if_pos rfl] at H; exact H
       clear H
       have H := H1
       clear H1
       replace H := Option.bind_eq_some_iff.mp H
       obtain ⟨⟨t353, t354, t355, t356, t359, t362⟩, A690, H⟩ := H
       (try dsimp only at H)
       have A69 := Aside0.mk A690
       clear A690
       replace H := Option.bind_eq_some_iff.mp H
       obtain ⟨t365, A700, H⟩ := H
       have A70 := Aside0.mk A700
       clear A700
       by_cases c71 : t365 = true
       ·subst c71
        have H1 : (some true) = some r := by rw [if_pos rfl] at H; exact H
        clear H
        have H := H1
        clear H1
        obtain rfl := Option.some.inj H
        try go_wp2
        have n0_ := Aside0.mk (Kd.R_drew HO_325003.out)
        have n1_ := Aside0.mk (Kd.R_drew HO_325004.out)
        have n2_ := Aside0.mk (Kd.R_drew HO_325005.out)
        have n3_ := Aside0.mk (Kd.R_drew HO_338003.out)
        have n4_ := Aside0.mk (Kd.R_drew HO_338004.out)
        have n5_ := Aside0.mk (Kd.R_drew HO_338005.out)
        have n6_ := Aside0.mk (blk_drew BK282.out)
        have n7_ := Aside0.mk (blk_drew BK283.out)
        have n8_ := Aside0.mk (blk_drew BK324.out)
        have n9_ := Aside0.mk (blk_drew BK337.out)
        have n10_ := Aside0.mk (below_drew1 HB.out)
        clear HO_325003
        clear HO_325004
        clear HO_325005
        clear HO_338003
        clear HO_338004
        clear HO_338005
        clear BK282
        clear BK283
        clear BK324
        clear BK337
        clear HB
        have HO_325003 := n0_
        have HO_325004 := n1_
        have HO_325005 := n2_
        have HO_338003 := n3_
        have HO_338004 := n4_
        have HO_338005 := n5_
        have BK282 := n6_
        have BK283 := n7_
        have BK324 := n8_
        have BK337 := n9_
        have HB := n10_
        clear n0_ n1_ n2_ n3_ n4_ n5_ n6_ n7_ n8_ n9_ n10_
        refine start_ (n := 5) (S := fun w' => w'.cell? ⟨gb324, 0, none⟩ = some (.int .i64 t312) ∧ w'.cell? ⟨gb324, 1, none⟩ = some (.int .i64 t313) ∧ w'.cell? ⟨gb324, 2, none⟩ = some (.int .i64 t314) ∧ w'.cell? ⟨gb324, 3, none⟩ = some (.slice Ao49 t315.length co49) ∧ w'.cell? ⟨gb324, 4, none⟩ = some (.slice Ao50 t318.length co50) ∧ w'.cell? ⟨gb324, 5, none⟩ = some (.slice Ao51 t321.length co51) ∧ w'.cell? ⟨gb282, 0, none⟩ = some (.int .i64 a0_0) ∧ w'.cell? ⟨gb282, 1, none⟩ = some (.int .i64 a0_1) ∧ w'.cell? ⟨gb282, 2, none⟩ = some (.int .i64 a0_2) ∧ w'.cell? ⟨gb282, 3, none⟩ = some (.slice A0_3 l0_3.length c0_3) ∧ w'.cell? ⟨gb282, 4, none⟩ = some (.slice A0_4 l0_4.length c0_4) ∧ w'.cell? ⟨gb282, 5, none⟩ = some (.slice A0_5 l0_5.length c0_5)) (ds := []) #[false, false, false, false, false] (by kernel_rfl) rfl rfl (ca6x9 BK324.out (cc6x9 BK282.out)) (fun hHeld => ?_)
        generalize wc.drew = w72 at HO_325003 HO_325004 HO_325005 HO_338003 HO_338004 HO_338005 BK282 BK283 BK324 BK337 HB hHeld ⊢
        refine take_ (i := 0) (N := some 48) (v := ?_) (a' := ?_) #[true, false, false, false, false] rfl rfl (by kernel_rfl) (fun _ _ _ h => h) (Or.inl ⟨by rfl, ?_⟩) hHeld ?_ ?_
        rotate_left
        ·rintro w' ⟨s0, s1, s2, s3, s4, s5, s6, s7, s8, s9, s10, s11⟩
         go_simp
         with_reducible rfl
        rotate_left
        ·simp only [Act.put, List.setIfInBounds_toArray, List.set_cons_zero, List.set_cons_succ, i64_w, i32_w]
         rfl
        refine take_ (i := 1) (N := some 49) (v := ?_) (a' := ?_) #[true, true, false, false, false] rfl rfl (by kernel_rfl) (fun _ _ _ h => h) (Or.inl ⟨by rfl, ?_⟩) hHeld ?_ ?_
        rotate_left
        ·rintro w' ⟨s0, s1, s2, s3, s4, s5, s6, s7, s8, s9, s10, s11⟩
         go_simp
         with_reducible rfl
        rotate_left
        ·simp only [Act.put, List.setIfInBounds_toArray, List.set_cons_zero, List.set_cons_succ, i64_w, i32_w]
         rfl
        refine one_ (i := 2) (N := some 50) #[true, true, true, false, false] rfl rfl (by kernel_rfl) (by decide) (fun K hK => ?_)
        refine goes_ Try.func19 (by kernel_rfl) rfl #[.agg #[.int .i64 a0_0, .int .i64 a0_1, .int .i64 a0_2, .slice A0_3 l0_3.length c0_3, .slice A0_4 l0_4.length c0_4, .slice A0_5 l0_5.length c0_5]] (by rfl) rfl rfl mpx9 ?_
        with_reducible refine (laws_toModel.calls kj24 a0_0 a0_1 a0_2 _ _ l0_3 _ _ l0_4 _ _ l0_5 t340 t341 t342 t343 t346 t349 _ ?side1 ?side2 ?side3 ?side4 ?side5 ?side6 A66.out).mono ?_
        (case side1 => exact rCx9 (Kd.C_below HR0_3.out HB.out))
        (case side2 => exact HC0_3.out)
        (case side3 => exact rCx9 (Kd.C_below HR0_4.out HB.out))
        (case side4 => exact HC0_4.out)
        (case side5 => exact rCx9 (Kd.C_below HR0_5.out HB.out))
        (case side6 => exact HC0_5.out)
        rintro e w73 ⟨v344, v347, v350, rfl, ho0, ho1, ho2, hb⟩
        refine ⟨_, rfl, ?_⟩
        have n0_ := Aside0.mk (kp3x9 (rRx9 HO_325003.out) hb ho0 ho1 ho2)
        have n1_ := Aside0.mk (kp3x9 (rRx9 HO_325004.out) hb ho0 ho1 ho2)
        have n2_ := Aside0.mk (kp3x9 (rRx9 HO_325005.out) hb ho0 ho1 ho2)
        have n3_ := Aside0.mk (kp3x9 (rRx9 HO_338003.out) hb ho0 ho1 ho2)
        have n4_ := Aside0.mk (kp3x9 (rRx9 HO_338004.out) hb ho0 ho1 ho2)
        have n5_ := Aside0.mk (kp3x9 (rRx9 HO_338005.out) hb ho0 ho1 ho2)
        have n6_ := Aside0.mk (Kd.R_lower (nwx9 (nwx9 (nwx9 (nwx9 (nwx9 (nwx9 ho0 (rRx9 HO_325003.out)) (rRx9 HO_325004.out)) (rRx9 HO_325005.out)) (rRx9 HO_338003.out)) (rRx9 HO_338004.out)) (rRx9 HO_338005.out)) (below_size (be4x9 HB.out GE282.out GE283.out GE324.out GE337.out)))
        have n7_ := Aside0.mk (Kd.R_lower (nwx9 (nwx9 (nwx9 (nwx9 (nwx9 (nwx9 ho1 (rRx9 HO_325003.out)) (rRx9 HO_325004.out)) (rRx9 HO_325005.out)) (rRx9 HO_338003.out)) (rRx9 HO_338004.out)) (rRx9 HO_338005.out)) (below_size (be4x9 HB.out GE282.out GE283.out GE324.out GE337.out)))
        have n8_ := Aside0.mk (Kd.R_lower (nwx9 (nwx9 (nwx9 (nwx9 (nwx9 (nwx9 ho2 (rRx9 HO_325003.out)) (rRx9 HO_325004.out)) (rRx9 HO_325005.out)) (rRx9 HO_338003.out)) (rRx9 HO_338004.out)) (rRx9 HO_338005.out)) (below_size (be4x9 HB.out GE282.out GE283.out GE324.out GE337.out)))
        have n9_ := Aside0.mk (blk_below (g := gb282) (o := .cells #[.int .i64 a0_0, .int .i64 a0_1, .int .i64 a0_2, .slice A0_3 l0_3.length c0_3, .slice A0_4 l0_4.length c0_4, .slice A0_5 l0_5.length c0_5] 26 (0, 0)) (rBx9 BK282.out) hb)
        have n10_ := Aside0.mk (blk_below (g := gb283) (o := .cells #[.int .i64 a1_0, .int .i64 a1_1, .int .i64 a1_2, .slice A1_3 l1_3.length c1_3, .slice A1_4 l1_4.length c1_4, .slice A1_5 l1_5.length c1_5] 26 (0, 0)) (rBx9 BK283.out) hb)
        have n11_ := Aside0.mk (blk_below (g := gb324) (o := .cells #[.int .i64 t312, .int .i64 t313, .int .i64 t314, .slice Ao49 t315.length co49, .slice Ao50 t318.length co50, .slice Ao51 t321.length co51] 41 (0, 0)) (rBx9 BK324.out) hb)
        have n12_ := Aside0.mk (blk_below (g := gb337) (o := .cells #[.int .i64 t325, .int .i64 t326, .int .i64 t327, .slice Ao59 t328.length co59, .slice Ao60 t331.length co60, .slice Ao61 t334.length co61] 41 (0, 0)) (rBx9 BK337.out) hb)
        have n13_ := Aside0.mk (below_step (be4x9 HB.out GE282.out GE283.out GE324.out GE337.out) hb)
        clear HO_325003
        clear HO_325004
        clear HO_325005
        clear HO_338003
        clear HO_338004
        clear HO_338005
        clear BK282
        clear BK283
        clear BK324
        clear BK337
        clear HB
        have HO_325003 := n0_
        have HO_325004 := n1_
        have HO_325005 := n2_
        have HO_338003 := n3_
        have HO_338004 := n4_
        have HO_338005 := n5_
        have HO345 := n6_
        have HO348 := n7_
        have HO351 := n8_
        have BK282 := n9_
        have BK283 := n10_
        have BK324 := n11_
        have BK337 := n12_
        have HB := n13_
        clear n0_ n1_ n2_ n3_ n4_ n5_ n6_ n7_ n8_ n9_ n10_ n11_ n12_ n13_
        (try clear hb)
        (try clear hb2)
        (try clear hk)
        (try clear hi)
        (try clear ho0)
        (try clear ho1)
        (try clear ho2)
        obtain ⟨Ao74, co74, eo74⟩ := Kd.R_slice HO345.out
        (first | subst eo74 | (injection eo74 with f1_ f2_ f3_; have f4_ := f1_.symm; have f5_ := f3_.symm; clear f1_ f2_ f3_; subst f4_; subst f5_))
        obtain ⟨Ao75, co75, eo75⟩ := Kd.R_slice HO348.out
        (first | subst eo75 | (injection eo75 with f1_ f2_ f3_; have f4_ := f1_.symm; have f5_ := f3_.symm; clear f1_ f2_ f3_; subst f4_; subst f5_))
        obtain ⟨Ao76, co76, eo76⟩ := Kd.R_slice HO351.out
        (first | subst eo76 | (injection eo76 with f1_ f2_ f3_; have f4_ := f1_.symm; have f5_ := f3_.symm; clear f1_ f2_ f3_; subst f4_; subst f5_))
        refine hK.out _ _ (ca6x9 BK324.out (cc6x9 BK282.out)) (fun hHeld => ?_)
        clear hK K
        refine norm_ (a' := ?_) ?_ ?_
        rotate_left
        ·show Act.put _ (some 50) _ = _
         simp only [Act.put, List.setIfInBounds_toArray, List.set_cons_zero, List.set_cons_succ, i64_w, i32_w]
         rfl
        refine one_ (i := 3) (N := some 51) #[true, true, true, true, false] rfl rfl (by kernel_rfl) (by decide) (fun K hK => ?_)
        refine goes_ Try.func24 (by kernel_rfl) rfl #[.agg #[.int .i64 t312, .int .i64 t313, .int .i64 t314, .slice Ao49 t315.length co49, .slice Ao50 t318.length co50, .slice Ao51 t321.length co51], .agg #[.int .i64 t340, .int .i64 t341, .int .i64 t342, .slice Ao74 t343.length co74, .slice Ao75 t346.length co75, .slice Ao76 t349.length co76]] (by rfl) rfl rfl mpx9 ?_
        with_reducible refine (laws_eqModel.calls kj24 t312 t313 t314 _ _ t315 _ _ t318 _ _ t321 t340 t341 t342 _ _ t343 _ _ t346 _ _ t349 true _ ?side1 ?side2 ?side3 ?side4 ?side5 ?side6 ?side7 ?side8 ?side9 ?side10 ?side11 ?side12 A67.out).mono ?_
        (case side1 => exact cRx9 HO_325003.out)
        (case side2 => exact (Kd.R_reads' HO_325003.out).2.1)
        (case side3 => exact cRx9 HO_325004.out)
        (case side4 => exact (Kd.R_reads' HO_325004.out).2.1)
        (case side5 => exact cRx9 HO_325005.out)
        (case side6 => exact (Kd.R_reads' HO_325005.out).2.1)
        (case side7 => exact cRx9 HO345.out)
        (case side8 => exact (Kd.R_reads' HO345.out).2.1)
        (case side9 => exact cRx9 HO348.out)
        (case side10 => exact (Kd.R_reads' HO348.out).2.1)
        (case side11 => exact cRx9 HO351.out)
        (case side12 => exact (Kd.R_reads' HO351.out).2.1)
        rintro e w77 ⟨rfl, hb⟩
        refine ⟨_, rfl, ?_⟩
        have n0_ := Aside0.mk (Kd.R_below (rRx9 HO_325003.out) hb)
        have n1_ := Aside0.mk (Kd.R_below (rRx9 HO_325004.out) hb)
        have n2_ := Aside0.mk (Kd.R_below (rRx9 HO_325005.out) hb)
        have n3_ := Aside0.mk (Kd.R_below (rRx9 HO_338003.out) hb)
        have n4_ := Aside0.mk (Kd.R_below (rRx9 HO_338004.out) hb)
        have n5_ := Aside0.mk (Kd.R_below (rRx9 HO_338005.out) hb)
        have n6_ := Aside0.mk (Kd.R_below (rRx9 HO345.out) hb)
        have n7_ := Aside0.mk (Kd.R_below (rRx9 HO348.out) hb)
        have n8_ := Aside0.mk (Kd.R_below (rRx9 HO351.out) hb)
        have n9_ := Aside0.mk (blk_below (g := gb282) (o := .cells #[.int .i64 a0_0, .int .i64 a0_1, .int .i64 a0_2, .slice A0_3 l0_3.length c0_3, .slice A0_4 l0_4.length c0_4, .slice A0_5 l0_5.length c0_5] 26 (0, 0)) (rBx9 BK282.out) hb)
        have n10_ := Aside0.mk (blk_below (g := gb283) (o := .cells #[.int .i64 a1_0, .int .i64 a1_1, .int .i64 a1_2, .slice A1_3 l1_3.length c1_3, .slice A1_4 l1_4.length c1_4, .slice A1_5 l1_5.length c1_5] 26 (0, 0)) (rBx9 BK283.out) hb)
        have n11_ := Aside0.mk (blk_below (g := gb324) (o := .cells #[.int .i64 t312, .int .i64 t313, .int .i64 t314, .slice Ao49 t315.length co49, .slice Ao50 t318.length co50, .slice Ao51 t321.length co51] 41 (0, 0)) (rBx9 BK324.out) hb)
        have n12_ := Aside0.mk (blk_below (g := gb337) (o := .cells #[.int .i64 t325, .int .i64 t326, .int .i64 t327, .slice Ao59 t328.length co59, .slice Ao60 t331.length co60, .slice Ao61 t334.length co61] 41 (0, 0)) (rBx9 BK337.out) hb)
        have n13_ := Aside0.mk (below_step (be4x9 HB.out GE282.out GE283.out GE324.out GE337.out) hb)
        clear HO_325003
        clear HO_325004
        clear HO_325005
        clear HO_338003
        clear HO_338004
        clear HO_338005
        clear HO345
        clear HO348
        clear HO351
        clear BK282
        clear BK283
        clear BK324
        clear BK337
        clear HB
        have HO_325003 := n0_
        have HO_325004 := n1_
        have HO_325005 := n2_
        have HO_338003 := n3_
        have HO_338004 := n4_
        have HO_338005 := n5_
        have HO345 := n6_
        have HO348 := n7_
        have HO351 := n8_
        have BK282 := n9_
        have BK283 := n10_
        have BK324 := n11_
        have BK337 := n12_
        have HB := n13_
        clear n0_ n1_ n2_ n3_ n4_ n5_ n6_ n7_ n8_ n9_ n10_ n11_ n12_ n13_
        (try clear hb)
        (try clear hb2)
        (try clear hk)
        (try clear hi)
        refine hK.out _ _ (ca6x9 BK324.out (cc6x9 BK282.out)) (fun hHeld => ?_)
        clear hK K
        refine norm_ (a' := ?_) ?_ ?_
        rotate_left
        ·show Act.put _ (some 51) _ = _
         simp only [Act.put, List.setIfInBounds_toArray, List.set_cons_zero, List.set_cons_succ, i64_w, i32_w]
         rfl
        refine pure_ (i := 4) (N := some 52) (v := ?_) (a' := ?_) #[true, true, true, true, true] rfl rfl (by kernel_rfl) (fun _ _ _ h => h) (Or.inl ⟨by rfl, ?_⟩) ?_ ?_
        rotate_left
        ·intro w'
         go_simp
         with_reducible rfl
        rotate_left
        ·simp only [Act.put, List.setIfInBounds_toArray, List.set_cons_zero, List.set_cons_succ, i64_w, i32_w]
         rfl
        refine done_ (by kernel_rfl) ?_
        try go_wp2
        have n0_ := Aside0.mk (Kd.R_drew HO_325003.out)
        have n1_ := Aside0.mk (Kd.R_drew HO_325004.out)
        have n2_ := Aside0.mk (Kd.R_drew HO_325005.out)
        have n3_ := Aside0.mk (Kd.R_drew HO_338003.out)
        have n4_ := Aside0.mk (Kd.R_drew HO_338004.out)
        have n5_ := Aside0.mk (Kd.R_drew HO_338005.out)
        have n6_ := Aside0.mk (Kd.R_drew HO345.out)
        have n7_ := Aside0.mk (Kd.R_drew HO348.out)
        have n8_ := Aside0.mk (Kd.R_drew HO351.out)
        have n9_ := Aside0.mk (blk_drew BK282.out)
        have n10_ := Aside0.mk (blk_drew BK283.out)
        have n11_ := Aside0.mk (blk_drew BK324.out)
        have n12_ := Aside0.mk (blk_drew BK337.out)
        have n13_ := Aside0.mk (below_drew1 HB.out)
        clear HO_325003
        clear HO_325004
        clear HO_325005
        clear HO_338003
        clear HO_338004
        clear HO_338005
        clear HO345
        clear HO348
        clear HO351
        clear BK282
        clear BK283
        clear BK324
        clear BK337
        clear HB
        have HO_325003 := n0_
        have HO_325004 := n1_
        have HO_325005 := n2_
        have HO_338003 := n3_
        have HO_338004 := n4_
        have HO_338005 := n5_
        have HO345 := n6_
        have HO348 := n7_
        have HO351 := n8_
        have BK282 := n9_
        have BK283 := n10_
        have BK324 := n11_
        have BK337 := n12_
        have HB := n13_
        clear n0_ n1_ n2_ n3_ n4_ n5_ n6_ n7_ n8_ n9_ n10_ n11_ n12_ n13_
        refine start_ (n := 5) (S := fun w' => w'.cell? ⟨gb337, 0, none⟩ = some (.int .i64 t325) ∧ w'.cell? ⟨gb337, 1, none⟩ = some (.int .i64 t326) ∧ w'.cell? ⟨gb337, 2, none⟩ = some (.int .i64 t327) ∧ w'.cell? ⟨gb337, 3, none⟩ = some (.slice Ao59 t328.length co59) ∧ w'.cell? ⟨gb337, 4, none⟩ = some (.slice Ao60 t331.length co60) ∧ w'.cell? ⟨gb337, 5, none⟩ = some (.slice Ao61 t334.length co61) ∧ w'.cell? ⟨gb283, 0, none⟩ = some (.int .i64 a1_0) ∧ w'.cell? ⟨gb283, 1, none⟩ = some (.int .i64 a1_1) ∧ w'.cell? ⟨gb283, 2, none⟩ = some (.int .i64 a1_2) ∧ w'.cell? ⟨gb283, 3, none⟩ = some (.slice A1_3 l1_3.length c1_3) ∧ w'.cell? ⟨gb283, 4, none⟩ = some (.slice A1_4 l1_4.length c1_4) ∧ w'.cell? ⟨gb283, 5, none⟩ = some (.slice A1_5 l1_5.length c1_5)) (ds := []) #[false, false, false, false, false] (by kernel_rfl) rfl rfl (ca6x9 BK337.out (cc6x9 BK283.out)) (fun hHeld => ?_)
        generalize w77.drew = w78 at HO_325003 HO_325004 HO_325005 HO_338003 HO_338004 HO_338005 HO345 HO348 HO351 BK282 BK283 BK324 BK337 HB hHeld ⊢
        refine take_ (i := 0) (N := some 53) (v := ?_) (a' := ?_) #[true, false, false, false, false] rfl rfl (by kernel_rfl) (fun _ _ _ h => h) (Or.inl ⟨by rfl, ?_⟩) hHeld ?_ ?_
        rotate_left
        ·rintro w' ⟨s0, s1, s2, s3, s4, s5, s6, s7, s8, s9, s10, s11⟩
         go_simp
         with_reducible rfl
        rotate_left
        ·simp only [Act.put, List.setIfInBounds_toArray, List.set_cons_zero, List.set_cons_succ, i64_w, i32_w]
         rfl
        refine take_ (i := 1) (N := some 54) (v := ?_) (a' := ?_) #[true, true, false, false, false] rfl rfl (by kernel_rfl) (fun _ _ _ h => h) (Or.inl ⟨by rfl, ?_⟩) hHeld ?_ ?_
        rotate_left
        ·rintro w' ⟨s0, s1, s2, s3, s4, s5, s6, s7, s8, s9, s10, s11⟩
         go_simp
         with_reducible rfl
        rotate_left
        ·simp only [Act.put, List.setIfInBounds_toArray, List.set_cons_zero, List.set_cons_succ, i64_w, i32_w]
         rfl
        refine one_ (i := 2) (N := some 55) #[true, true, true, false, false] rfl rfl (by kernel_rfl) (by decide) (fun K hK => ?_)
        refine goes_ Try.func19 (by kernel_rfl) rfl #[.agg #[.int .i64 a1_0, .int .i64 a1_1, .int .i64 a1_2, .slice A1_3 l1_3.length c1_3, .slice A1_4 l1_4.length c1_4, .slice A1_5 l1_5.length c1_5]] (by rfl) rfl rfl mpx9 ?_
        with_reducible refine (laws_toModel.calls kj24 a1_0 a1_1 a1_2 _ _ l1_3 _ _ l1_4 _ _ l1_5 t353 t354 t355 t356 t359 t362 _ ?side1 ?side2 ?side3 ?side4 ?side5 ?side6 A69.out).mono ?_
        (case side1 => exact rCx9 (Kd.C_below HR1_3.out HB.out))
        (case side2 => exact HC1_3.out)
        (case side3 => exact rCx9 (Kd.C_below HR1_4.out HB.out))
        (case side4 => exact HC1_4.out)
        (case side5 => exact rCx9 (Kd.C_below HR1_5.out HB.out))
        (case side6 => exact HC1_5.out)
        rintro e w79 ⟨v357, v360, v363, rfl, ho0, ho1, ho2, hb⟩
        refine ⟨_, rfl, ?_⟩
        have n0_ := Aside0.mk (kp3x9 (rRx9 HO_325003.out) hb ho0 ho1 ho2)
        have n1_ := Aside0.mk (kp3x9 (rRx9 HO_325004.out) hb ho0 ho1 ho2)
        have n2_ := Aside0.mk (kp3x9 (rRx9 HO_325005.out) hb ho0 ho1 ho2)
        have n3_ := Aside0.mk (kp3x9 (rRx9 HO_338003.out) hb ho0 ho1 ho2)
        have n4_ := Aside0.mk (kp3x9 (rRx9 HO_338004.out) hb ho0 ho1 ho2)
        have n5_ := Aside0.mk (kp3x9 (rRx9 HO_338005.out) hb ho0 ho1 ho2)
        have n6_ := Aside0.mk (kp3x9 (rRx9 HO345.out) hb ho0 ho1 ho2)
        have n7_ := Aside0.mk (kp3x9 (rRx9 HO348.out) hb ho0 ho1 ho2)
        have n8_ := Aside0.mk (kp3x9 (rRx9 HO351.out) hb ho0 ho1 ho2)
        have n9_ := Aside0.mk (Kd.R_lower (nwx9 (nwx9 (nwx9 (nwx9 (nwx9 (nwx9 (nwx9 (nwx9 (nwx9 ho0 (rRx9 HO_325003.out)) (rRx9 HO_325004.out)) (rRx9 HO_325005.out)) (rRx9 HO_338003.out)) (rRx9 HO_338004.out)) (rRx9 HO_338005.out)) (rRx9 HO345.out)) (rRx9 HO348.out)) (rRx9 HO351.out)) (below_size (be4x9 HB.out GE282.out GE283.out GE324.out GE337.out)))
        have n10_ := Aside0.mk (Kd.R_lower (nwx9 (nwx9 (nwx9 (nwx9 (nwx9 (nwx9 (nwx9 (nwx9 (nwx9 ho1 (rRx9 HO_325003.out)) (rRx9 HO_325004.out)) (rRx9 HO_325005.out)) (rRx9 HO_338003.out)) (rRx9 HO_338004.out)) (rRx9 HO_338005.out)) (rRx9 HO345.out)) (rRx9 HO348.out)) (rRx9 HO351.out)) (below_size (be4x9 HB.out GE282.out GE283.out GE324.out GE337.out)))
        have n11_ := Aside0.mk (Kd.R_lower (nwx9 (nwx9 (nwx9 (nwx9 (nwx9 (nwx9 (nwx9 (nwx9 (nwx9 ho2 (rRx9 HO_325003.out)) (rRx9 HO_325004.out)) (rRx9 HO_325005.out)) (rRx9 HO_338003.out)) (rRx9 HO_338004.out)) (rRx9 HO_338005.out)) (rRx9 HO345.out)) (rRx9 HO348.out)) (rRx9 HO351.out)) (below_size (be4x9 HB.out GE282.out GE283.out GE324.out GE337.out)))
        have n12_ := Aside0.mk (blk_below (g := gb282) (o := .cells #[.int .i64 a0_0, .int .i64 a0_1, .int .i64 a0_2, .slice A0_3 l0_3.length c0_3, .slice A0_4 l0_4.length c0_4, .slice A0_5 l0_5.length c0_5] 26 (0, 0)) (rBx9 BK282.out) hb)
        have n13_ := Aside0.mk (blk_below (g := gb283) (o := .cells #[.int .i64 a1_0, .int .i64 a1_1, .int .i64 a1_2, .slice A1_3 l1_3.length c1_3, .slice A1_4 l1_4.length c1_4, .slice A1_5 l1_5.length c1_5] 26 (0, 0)) (rBx9 BK283.out) hb)
        have n14_ := Aside0.mk (blk_below (g := gb324) (o := .cells #[.int .i64 t312, .int .i64 t313, .int .i64 t314, .slice Ao49 t315.length co49, .slice Ao50 t318.length co50, .slice Ao51 t321.length co51] 41 (0, 0)) (rBx9 BK324.out) hb)
        have n15_ := Aside0.mk (blk_below (g := gb337) (o := .cells #[.int .i64 t325, .int .i64 t326, .int .i64 t327, .slice Ao59 t328.length co59, .slice Ao60 t331.length co60, .slice Ao61 t334.length co61] 41 (0, 0)) (rBx9 BK337.out) hb)
        have n16_ := Aside0.mk (below_step (be4x9 HB.out GE282.out GE283.out GE324.out GE337.out) hb)
        clear HO_325003
        clear HO_325004
        clear HO_325005
        clear HO_338003
        clear HO_338004
        clear HO_338005
        clear HO345
        clear HO348
        clear HO351
        clear BK282
        clear BK283
        clear BK324
        clear BK337
        clear HB
        have HO_325003 := n0_
        have HO_325004 := n1_
        have HO_325005 := n2_
        have HO_338003 := n3_
        have HO_338004 := n4_
        have HO_338005 := n5_
        have HO345 := n6_
        have HO348 := n7_
        have HO351 := n8_
        have HO358 := n9_
        have HO361 := n10_
        have HO364 := n11_
        have BK282 := n12_
        have BK283 := n13_
        have BK324 := n14_
        have BK337 := n15_
        have HB := n16_
        clear n0_ n1_ n2_ n3_ n4_ n5_ n6_ n7_ n8_ n9_ n10_ n11_ n12_ n13_ n14_ n15_ n16_
        (try clear hb)
        (try clear hb2)
        (try clear hk)
        (try clear hi)
        (try clear ho0)
        (try clear ho1)
        (try clear ho2)
        obtain ⟨Ao80, co80, eo80⟩ := Kd.R_slice HO358.out
        (first | subst eo80 | (injection eo80 with f1_ f2_ f3_; have f4_ := f1_.symm; have f5_ := f3_.symm; clear f1_ f2_ f3_; subst f4_; subst f5_))
        obtain ⟨Ao81, co81, eo81⟩ := Kd.R_slice HO361.out
        (first | subst eo81 | (injection eo81 with f1_ f2_ f3_; have f4_ := f1_.symm; have f5_ := f3_.symm; clear f1_ f2_ f3_; subst f4_; subst f5_))
        obtain ⟨Ao82, co82, eo82⟩ := Kd.R_slice HO364.out
        (first | subst eo82 | (injection eo82 with f1_ f2_ f3_; have f4_ := f1_.symm; have f5_ := f3_.symm; clear f1_ f2_ f3_; subst f4_; subst f5_))
        refine hK.out _ _ (ca6x9 BK337.out (cc6x9 BK283.out)) (fun hHeld => ?_)
        clear hK K
        refine norm_ (a' := ?_) ?_ ?_
        rotate_left
        ·show Act.put _ (some 55) _ = _
         simp only [Act.put, List.setIfInBounds_toArray, List.set_cons_zero, List.set_cons_succ, i64_w, i32_w]
         rfl
        refine one_ (i := 3) (N := some 56) #[true, true, true, true, false] rfl rfl (by kernel_rfl) (by decide) (fun K hK => ?_)
        refine goes_ Try.func24 (by kernel_rfl) rfl #[.agg #[.int .i64 t325, .int .i64 t326, .int .i64 t327, .slice Ao59 t328.length co59, .slice Ao60 t331.length co60, .slice Ao61 t334.length co61], .agg #[.int .i64 t353, .int .i64 t354, .int .i64 t355, .slice Ao80 t356.length co80, .slice Ao81 t359.length co81, .slice Ao82 t362.length co82]] (by rfl) rfl rfl mpx9 ?_
        with_reducible refine (laws_eqModel.calls kj24 t325 t326 t327 _ _ t328 _ _ t331 _ _ t334 t353 t354 t355 _ _ t356 _ _ t359 _ _ t362 true _ ?side1 ?side2 ?side3 ?side4 ?side5 ?side6 ?side7 ?side8 ?side9 ?side10 ?side11 ?side12 A70.out).mono ?_
        (case side1 => exact cRx9 HO_338003.out)
        (case side2 => exact (Kd.R_reads' HO_338003.out).2.1)
        (case side3 => exact cRx9 HO_338004.out)
        (case side4 => exact (Kd.R_reads' HO_338004.out).2.1)
        (case side5 => exact cRx9 HO_338005.out)
        (case side6 => exact (Kd.R_reads' HO_338005.out).2.1)
        (case side7 => exact cRx9 HO358.out)
        (case side8 => exact (Kd.R_reads' HO358.out).2.1)
        (case side9 => exact cRx9 HO361.out)
        (case side10 => exact (Kd.R_reads' HO361.out).2.1)
        (case side11 => exact cRx9 HO364.out)
        (case side12 => exact (Kd.R_reads' HO364.out).2.1)
        rintro e w83 ⟨rfl, hb⟩
        refine ⟨_, rfl, ?_⟩
        have n0_ := Aside0.mk (Kd.R_below (rRx9 HO_325003.out) hb)
        have n1_ := Aside0.mk (Kd.R_below (rRx9 HO_325004.out) hb)
        have n2_ := Aside0.mk (Kd.R_below (rRx9 HO_325005.out) hb)
        have n3_ := Aside0.mk (Kd.R_below (rRx9 HO_338003.out) hb)
        have n4_ := Aside0.mk (Kd.R_below (rRx9 HO_338004.out) hb)
        have n5_ := Aside0.mk (Kd.R_below (rRx9 HO_338005.out) hb)
        have n6_ := Aside0.mk (Kd.R_below (rRx9 HO345.out) hb)
        have n7_ := Aside0.mk (Kd.R_below (rRx9 HO348.out) hb)
        have n8_ := Aside0.mk (Kd.R_below (rRx9 HO351.out) hb)
        have n9_ := Aside0.mk (Kd.R_below (rRx9 HO358.out) hb)
        have n10_ := Aside0.mk (Kd.R_below (rRx9 HO361.out) hb)
        have n11_ := Aside0.mk (Kd.R_below (rRx9 HO364.out) hb)
        have n12_ := Aside0.mk (blk_below (g := gb282) (o := .cells #[.int .i64 a0_0, .int .i64 a0_1, .int .i64 a0_2, .slice A0_3 l0_3.length c0_3, .slice A0_4 l0_4.length c0_4, .slice A0_5 l0_5.length c0_5] 26 (0, 0)) (rBx9 BK282.out) hb)
        have n13_ := Aside0.mk (blk_below (g := gb283) (o := .cells #[.int .i64 a1_0, .int .i64 a1_1, .int .i64 a1_2, .slice A1_3 l1_3.length c1_3, .slice A1_4 l1_4.length c1_4, .slice A1_5 l1_5.length c1_5] 26 (0, 0)) (rBx9 BK283.out) hb)
        have n14_ := Aside0.mk (blk_below (g := gb324) (o := .cells #[.int .i64 t312, .int .i64 t313, .int .i64 t314, .slice Ao49 t315.length co49, .slice Ao50 t318.length co50, .slice Ao51 t321.length co51] 41 (0, 0)) (rBx9 BK324.out) hb)
        have n15_ := Aside0.mk (blk_below (g := gb337) (o := .cells #[.int .i64 t325, .int .i64 t326, .int .i64 t327, .slice Ao59 t328.length co59, .slice Ao60 t331.length co60, .slice Ao61 t334.length co61] 41 (0, 0)) (rBx9 BK337.out) hb)
        have n16_ := Aside0.mk (below_step (be4x9 HB.out GE282.out GE283.out GE324.out GE337.out) hb)
        clear HO_325003
        clear HO_325004
        clear HO_325005
        clear HO_338003
        clear HO_338004
        clear HO_338005
        clear HO345
        clear HO348
        clear HO351
        clear HO358
        clear HO361
        clear HO364
        clear BK282
        clear BK283
        clear BK324
        clear BK337
        clear HB
        have HO_325003 := n0_
        have HO_325004 := n1_
        have HO_325005 := n2_
        have HO_338003 := n3_
        have HO_338004 := n4_
        have HO_338005 := n5_
        have HO345 := n6_
        have HO348 := n7_
        have HO351 := n8_
        have HO358 := n9_
        have HO361 := n10_
        have HO364 := n11_
        have BK282 := n12_
        have BK283 := n13_
        have BK324 := n14_
        have BK337 := n15_
        have HB := n16_
        clear n0_ n1_ n2_ n3_ n4_ n5_ n6_ n7_ n8_ n9_ n10_ n11_ n12_ n13_ n14_ n15_ n16_
        (try clear hb)
        (try clear hb2)
        (try clear hk)
        (try clear hi)
        refine hK.out _ _ (ca6x9 BK337.out (cc6x9 BK283.out)) (fun hHeld => ?_)
        clear hK K
        refine norm_ (a' := ?_) ?_ ?_
        rotate_left
        ·show Act.put _ (some 56) _ = _
         simp only [Act.put, List.setIfInBounds_toArray, List.set_cons_zero, List.set_cons_succ, i64_w, i32_w]
         rfl
        refine pure_ (i := 4) (N := some 57) (v := ?_) (a' := ?_) #[true, true, true, true, true] rfl rfl (by kernel_rfl) (fun _ _ _ h => h) (Or.inl ⟨by rfl, ?_⟩) ?_ ?_
        rotate_left
        ·intro w'
         go_simp
         with_reducible rfl
        rotate_left
        ·simp only [Act.put, List.setIfInBounds_toArray, List.set_cons_zero, List.set_cons_succ, i64_w, i32_w]
         rfl
        refine done_ (by kernel_rfl) ?_
        try go_wp2
        go_ret
        exact ⟨by first | rfl | (simp [errW_none, errW_some] <;> rfl) | (simp [*, errW_none, errW_some] <;> rfl), be4x9 HB.out GE282.out GE283.out GE324.out GE337.out⟩
       ·replace c71 := Bool.eq_false_iff.mpr c71
        subst c71
        have H1 : (some false) = some r := by rw [if_neg (show ¬ (false = true) by decide)] at H; exact H
        clear H
        have H := H1
        clear H1
        obtain rfl := Option.some.inj H
        try go_wp2
        have n0_ := Aside0.mk (Kd.R_drew HO_325003.out)
        have n1_ := Aside0.mk (Kd.R_drew HO_325004.out)
        have n2_ := Aside0.mk (Kd.R_drew HO_325005.out)
        have n3_ := Aside0.mk (Kd.R_drew HO_338003.out)
        have n4_ := Aside0.mk (Kd.R_drew HO_338004.out)
        have n5_ := Aside0.mk (Kd.R_drew HO_338005.out)
        have n6_ := Aside0.mk (blk_drew BK282.out)
        have n7_ := Aside0.mk (blk_drew BK283.out)
        have n8_ := Aside0.mk (blk_drew BK324.out)
        have n9_ := Aside0.mk (blk_drew BK337.out)
        have n10_ := Aside0.mk (below_drew1 HB.out)
        clear HO_325003
        clear HO_325004
        clear HO_325005
        clear HO_338003
        clear HO_338004
        clear HO_338005
        clear BK282
        clear BK283
        clear BK324
        clear BK337
        clear HB
        have HO_325003 := n0_
        have HO_325004 := n1_
        have HO_325005 := n2_
        have HO_338003 := n3_
        have HO_338004 := n4_
        have HO_338005 := n5_
        have BK282 := n6_
        have BK283 := n7_
        have BK324 := n8_
        have BK337 := n9_
        have HB := n10_
        clear n0_ n1_ n2_ n3_ n4_ n5_ n6_ n7_ n8_ n9_ n10_
        refine start_ (n := 5) (S := fun w' => w'.cell? ⟨gb324, 0, none⟩ = some (.int .i64 t312) ∧ w'.cell? ⟨gb324, 1, none⟩ = some (.int .i64 t313) ∧ w'.cell? ⟨gb324, 2, none⟩ = some (.int .i64 t314) ∧ w'.cell? ⟨gb324, 3, none⟩ = some (.slice Ao49 t315.length co49) ∧ w'.cell? ⟨gb324, 4, none⟩ = some (.slice Ao50 t318.length co50) ∧ w'.cell? ⟨gb324, 5, none⟩ = some (.slice Ao51 t321.length co51) ∧ w'.cell? ⟨gb282, 0, none⟩ = some (.int .i64 a0_0) ∧ w'.cell? ⟨gb282, 1, none⟩ = some (.int .i64 a0_1) ∧ w'.cell? ⟨gb282, 2, none⟩ = some (.int .i64 a0_2) ∧ w'.cell? ⟨gb282, 3, none⟩ = some (.slice A0_3 l0_3.length c0_3) ∧ w'.cell? ⟨gb282, 4, none⟩ = some (.slice A0_4 l0_4.length c0_4) ∧ w'.cell? ⟨gb282, 5, none⟩ = some (.slice A0_5 l0_5.length c0_5)) (ds := []) #[false, false, false, false, false] (by kernel_rfl) rfl rfl (ca6x9 BK324.out (cc6x9 BK282.out)) (fun hHeld => ?_)
        generalize wc.drew = w84 at HO_325003 HO_325004 HO_325005 HO_338003 HO_338004 HO_338005 BK282 BK283 BK324 BK337 HB hHeld ⊢
        refine take_ (i := 0) (N := some 48) (v := ?_) (a' := ?_) #[true, false, false, false, false] rfl rfl (by kernel_rfl) (fun _ _ _ h => h) (Or.inl ⟨by rfl, ?_⟩) hHeld ?_ ?_
        rotate_left
        ·rintro w' ⟨s0, s1, s2, s3, s4, s5, s6, s7, s8, s9, s10, s11⟩
         go_simp
         with_reducible rfl
        rotate_left
        ·simp only [Act.put, List.setIfInBounds_toArray, List.set_cons_zero, List.set_cons_succ, i64_w, i32_w]
         rfl
        refine take_ (i := 1) (N := some 49) (v := ?_) (a' := ?_) #[true, true, false, false, false] rfl rfl (by kernel_rfl) (fun _ _ _ h => h) (Or.inl ⟨by rfl, ?_⟩) hHeld ?_ ?_
        rotate_left
        ·rintro w' ⟨s0, s1, s2, s3, s4, s5, s6, s7, s8, s9, s10, s11⟩
         go_simp
         with_reducible rfl
        rotate_left
        ·simp only [Act.put, List.setIfInBounds_toArray, List.set_cons_zero, List.set_cons_succ, i64_w, i32_w]
         rfl
        refine one_ (i := 2) (N := some 50) #[true, true, true, false, false] rfl rfl (by kernel_rfl) (by decide) (fun K hK => ?_)
        refine goes_ Try.func19 (by kernel_rfl) rfl #[.agg #[.int .i64 a0_0, .int .i64 a0_1, .int .i64 a0_2, .slice A0_3 l0_3.length c0_3, .slice A0_4 l0_4.length c0_4, .slice A0_5 l0_5.length c0_5]] (by rfl) rfl rfl mpx9 ?_
        with_reducible refine (laws_toModel.calls kj24 a0_0 a0_1 a0_2 _ _ l0_3 _ _ l0_4 _ _ l0_5 t340 t341 t342 t343 t346 t349 _ ?side1 ?side2 ?side3 ?side4 ?side5 ?side6 A66.out).mono ?_
        (case side1 => exact rCx9 (Kd.C_below HR0_3.out HB.out))
        (case side2 => exact HC0_3.out)
        (case side3 => exact rCx9 (Kd.C_below HR0_4.out HB.out))
        (case side4 => exact HC0_4.out)
        (case side5 => exact rCx9 (Kd.C_below HR0_5.out HB.out))
        (case side6 => exact HC0_5.out)
        rintro e w85 ⟨v344, v347, v350, rfl, ho0, ho1, ho2, hb⟩
        refine ⟨_, rfl, ?_⟩
        have n0_ := Aside0.mk (kp3x9 (rRx9 HO_325003.out) hb ho0 ho1 ho2)
        have n1_ := Aside0.mk (kp3x9 (rRx9 HO_325004.out) hb ho0 ho1 ho2)
        have n2_ := Aside0.mk (kp3x9 (rRx9 HO_325005.out) hb ho0 ho1 ho2)
        have n3_ := Aside0.mk (kp3x9 (rRx9 HO_338003.out) hb ho0 ho1 ho2)
        have n4_ := Aside0.mk (kp3x9 (rRx9 HO_338004.out) hb ho0 ho1 ho2)
        have n5_ := Aside0.mk (kp3x9 (rRx9 HO_338005.out) hb ho0 ho1 ho2)
        have n6_ := Aside0.mk (Kd.R_lower (nwx9 (nwx9 (nwx9 (nwx9 (nwx9 (nwx9 ho0 (rRx9 HO_325003.out)) (rRx9 HO_325004.out)) (rRx9 HO_325005.out)) (rRx9 HO_338003.out)) (rRx9 HO_338004.out)) (rRx9 HO_338005.out)) (below_size (be4x9 HB.out GE282.out GE283.out GE324.out GE337.out)))
        have n7_ := Aside0.mk (Kd.R_lower (nwx9 (nwx9 (nwx9 (nwx9 (nwx9 (nwx9 ho1 (rRx9 HO_325003.out)) (rRx9 HO_325004.out)) (rRx9 HO_325005.out)) (rRx9 HO_338003.out)) (rRx9 HO_338004.out)) (rRx9 HO_338005.out)) (below_size (be4x9 HB.out GE282.out GE283.out GE324.out GE337.out)))
        have n8_ := Aside0.mk (Kd.R_lower (nwx9 (nwx9 (nwx9 (nwx9 (nwx9 (nwx9 ho2 (rRx9 HO_325003.out)) (rRx9 HO_325004.out)) (rRx9 HO_325005.out)) (rRx9 HO_338003.out)) (rRx9 HO_338004.out)) (rRx9 HO_338005.out)) (below_size (be4x9 HB.out GE282.out GE283.out GE324.out GE337.out)))
        have n9_ := Aside0.mk (blk_below (g := gb282) (o := .cells #[.int .i64 a0_0, .int .i64 a0_1, .int .i64 a0_2, .slice A0_3 l0_3.length c0_3, .slice A0_4 l0_4.length c0_4, .slice A0_5 l0_5.length c0_5] 26 (0, 0)) (rBx9 BK282.out) hb)
        have n10_ := Aside0.mk (blk_below (g := gb283) (o := .cells #[.int .i64 a1_0, .int .i64 a1_1, .int .i64 a1_2, .slice A1_3 l1_3.length c1_3, .slice A1_4 l1_4.length c1_4, .slice A1_5 l1_5.length c1_5] 26 (0, 0)) (rBx9 BK283.out) hb)
        have n11_ := Aside0.mk (blk_below (g := gb324) (o := .cells #[.int .i64 t312, .int .i64 t313, .int .i64 t314, .slice Ao49 t315.length co49, .slice Ao50 t318.length co50, .slice Ao51 t321.length co51] 41 (0, 0)) (rBx9 BK324.out) hb)
        have n12_ := Aside0.mk (blk_below (g := gb337) (o := .cells #[.int .i64 t325, .int .i64 t326, .int .i64 t327, .slice Ao59 t328.length co59, .slice Ao60 t331.length co60, .slice Ao61 t334.length co61] 41 (0, 0)) (rBx9 BK337.out) hb)
        have n13_ := Aside0.mk (below_step (be4x9 HB.out GE282.out GE283.out GE324.out GE337.out) hb)
        clear HO_325003
        clear HO_325004
        clear HO_325005
        clear HO_338003
        clear HO_338004
        clear HO_338005
        clear BK282
        clear BK283
        clear BK324
        clear BK337
        clear HB
        have HO_325003 := n0_
        have HO_325004 := n1_
        have HO_325005 := n2_
        have HO_338003 := n3_
        have HO_338004 := n4_
        have HO_338005 := n5_
        have HO345 := n6_
        have HO348 := n7_
        have HO351 := n8_
        have BK282 := n9_
        have BK283 := n10_
        have BK324 := n11_
        have BK337 := n12_
        have HB := n13_
        clear n0_ n1_ n2_ n3_ n4_ n5_ n6_ n7_ n8_ n9_ n10_ n11_ n12_ n13_
        (try clear hb)
        (try clear hb2)
        (try clear hk)
        (try clear hi)
        (try clear ho0)
        (try clear ho1)
        (try clear ho2)
        obtain ⟨Ao86, co86, eo86⟩ := Kd.R_slice HO345.out
        (first | subst eo86 | (injection eo86 with f1_ f2_ f3_; have f4_ := f1_.symm; have f5_ := f3_.symm; clear f1_ f2_ f3_; subst f4_; subst f5_))
        obtain ⟨Ao87, co87, eo87⟩ := Kd.R_slice HO348.out
        (first | subst eo87 | (injection eo87 with f1_ f2_ f3_; have f4_ := f1_.symm; have f5_ := f3_.symm; clear f1_ f2_ f3_; subst f4_; subst f5_))
        obtain ⟨Ao88, co88, eo88⟩ := Kd.R_slice HO351.out
        (first | subst eo88 | (injection eo88 with f1_ f2_ f3_; have f4_ := f1_.symm; have f5_ := f3_.symm; clear f1_ f2_ f3_; subst f4_; subst f5_))
        refine hK.out _ _ (ca6x9 BK324.out (cc6x9 BK282.out)) (fun hHeld => ?_)
        clear hK K
        refine norm_ (a' := ?_) ?_ ?_
        rotate_left
        ·show Act.put _ (some 50) _ = _
         simp only [Act.put, List.setIfInBounds_toArray, List.set_cons_zero, List.set_cons_succ, i64_w, i32_w]
         rfl
        refine one_ (i := 3) (N := some 51) #[true, true, true, true, false] rfl rfl (by kernel_rfl) (by decide) (fun K hK => ?_)
        refine goes_ Try.func24 (by kernel_rfl) rfl #[.agg #[.int .i64 t312, .int .i64 t313, .int .i64 t314, .slice Ao49 t315.length co49, .slice Ao50 t318.length co50, .slice Ao51 t321.length co51], .agg #[.int .i64 t340, .int .i64 t341, .int .i64 t342, .slice Ao86 t343.length co86, .slice Ao87 t346.length co87, .slice Ao88 t349.length co88]] (by rfl) rfl rfl mpx9 ?_
        with_reducible refine (laws_eqModel.calls kj24 t312 t313 t314 _ _ t315 _ _ t318 _ _ t321 t340 t341 t342 _ _ t343 _ _ t346 _ _ t349 true _ ?side1 ?side2 ?side3 ?side4 ?side5 ?side6 ?side7 ?side8 ?side9 ?side10 ?side11 ?side12 A67.out).mono ?_
        (case side1 => exact cRx9 HO_325003.out)
        (case side2 => exact (Kd.R_reads' HO_325003.out).2.1)
        (case side3 => exact cRx9 HO_325004.out)
        (case side4 => exact (Kd.R_reads' HO_325004.out).2.1)
        (case side5 => exact cRx9 HO_325005.out)
        (case side6 => exact (Kd.R_reads' HO_325005.out).2.1)
        (case side7 => exact cRx9 HO345.out)
        (case side8 => exact (Kd.R_reads' HO345.out).2.1)
        (case side9 => exact cRx9 HO348.out)
        (case side10 => exact (Kd.R_reads' HO348.out).2.1)
        (case side11 => exact cRx9 HO351.out)
        (case side12 => exact (Kd.R_reads' HO351.out).2.1)
        rintro e w89 ⟨rfl, hb⟩
        refine ⟨_, rfl, ?_⟩
        have n0_ := Aside0.mk (Kd.R_below (rRx9 HO_325003.out) hb)
        have n1_ := Aside0.mk (Kd.R_below (rRx9 HO_325004.out) hb)
        have n2_ := Aside0.mk (Kd.R_below (rRx9 HO_325005.out) hb)
        have n3_ := Aside0.mk (Kd.R_below (rRx9 HO_338003.out) hb)
        have n4_ := Aside0.mk (Kd.R_below (rRx9 HO_338004.out) hb)
        have n5_ := Aside0.mk (Kd.R_below (rRx9 HO_338005.out) hb)
        have n6_ := Aside0.mk (Kd.R_below (rRx9 HO345.out) hb)
        have n7_ := Aside0.mk (Kd.R_below (rRx9 HO348.out) hb)
        have n8_ := Aside0.mk (Kd.R_below (rRx9 HO351.out) hb)
        have n9_ := Aside0.mk (blk_below (g := gb282) (o := .cells #[.int .i64 a0_0, .int .i64 a0_1, .int .i64 a0_2, .slice A0_3 l0_3.length c0_3, .slice A0_4 l0_4.length c0_4, .slice A0_5 l0_5.length c0_5] 26 (0, 0)) (rBx9 BK282.out) hb)
        have n10_ := Aside0.mk (blk_below (g := gb283) (o := .cells #[.int .i64 a1_0, .int .i64 a1_1, .int .i64 a1_2, .slice A1_3 l1_3.length c1_3, .slice A1_4 l1_4.length c1_4, .slice A1_5 l1_5.length c1_5] 26 (0, 0)) (rBx9 BK283.out) hb)
        have n11_ := Aside0.mk (blk_below (g := gb324) (o := .cells #[.int .i64 t312, .int .i64 t313, .int .i64 t314, .slice Ao49 t315.length co49, .slice Ao50 t318.length co50, .slice Ao51 t321.length co51] 41 (0, 0)) (rBx9 BK324.out) hb)
        have n12_ := Aside0.mk (blk_below (g := gb337) (o := .cells #[.int .i64 t325, .int .i64 t326, .int .i64 t327, .slice Ao59 t328.length co59, .slice Ao60 t331.length co60, .slice Ao61 t334.length co61] 41 (0, 0)) (rBx9 BK337.out) hb)
        have n13_ := Aside0.mk (below_step (be4x9 HB.out GE282.out GE283.out GE324.out GE337.out) hb)
        clear HO_325003
        clear HO_325004
        clear HO_325005
        clear HO_338003
        clear HO_338004
        clear HO_338005
        clear HO345
        clear HO348
        clear HO351
        clear BK282
        clear BK283
        clear BK324
        clear BK337
        clear HB
        have HO_325003 := n0_
        have HO_325004 := n1_
        have HO_325005 := n2_
        have HO_338003 := n3_
        have HO_338004 := n4_
        have HO_338005 := n5_
        have HO345 := n6_
        have HO348 := n7_
        have HO351 := n8_
        have BK282 := n9_
        have BK283 := n10_
        have BK324 := n11_
        have BK337 := n12_
        have HB := n13_
        clear n0_ n1_ n2_ n3_ n4_ n5_ n6_ n7_ n8_ n9_ n10_ n11_ n12_ n13_
        (try clear hb)
        (try clear hb2)
        (try clear hk)
        (try clear hi)
        refine hK.out _ _ (ca6x9 BK324.out (cc6x9 BK282.out)) (fun hHeld => ?_)
        clear hK K
        refine norm_ (a' := ?_) ?_ ?_
        rotate_left
        ·show Act.put _ (some 51) _ = _
         simp only [Act.put, List.setIfInBounds_toArray, List.set_cons_zero, List.set_cons_succ, i64_w, i32_w]
         rfl
        refine pure_ (i := 4) (N := some 52) (v := ?_) (a' := ?_) #[true, true, true, true, true] rfl rfl (by kernel_rfl) (fun _ _ _ h => h) (Or.inl ⟨by rfl, ?_⟩) ?_ ?_
        rotate_left
        ·intro w'
         go_simp
         with_reducible rfl
        rotate_left
        ·simp only [Act.put, List.setIfInBounds_toArray, List.set_cons_zero, List.set_cons_succ, i64_w, i32_w]
         rfl
        refine done_ (by kernel_rfl) ?_
        try go_wp2
        have n0_ := Aside0.mk (Kd.R_drew HO_325003.out)
        have n1_ := Aside0.mk (Kd.R_drew HO_325004.out)
        have n2_ := Aside0.mk (Kd.R_drew HO_325005.out)
        have n3_ := Aside0.mk (Kd.R_drew HO_338003.out)
        have n4_ := Aside0.mk (Kd.R_drew HO_338004.out)
        have n5_ := Aside0.mk (Kd.R_drew HO_338005.out)
        have n6_ := Aside0.mk (Kd.R_drew HO345.out)
        have n7_ := Aside0.mk (Kd.R_drew HO348.out)
        have n8_ := Aside0.mk (Kd.R_drew HO351.out)
        have n9_ := Aside0.mk (blk_drew BK282.out)
        have n10_ := Aside0.mk (blk_drew BK283.out)
        have n11_ := Aside0.mk (blk_drew BK324.out)
        have n12_ := Aside0.mk (blk_drew BK337.out)
        have n13_ := Aside0.mk (below_drew1 HB.out)
        clear HO_325003
        clear HO_325004
        clear HO_325005
        clear HO_338003
        clear HO_338004
        clear HO_338005
        clear HO345
        clear HO348
        clear HO351
        clear BK282
        clear BK283
        clear BK324
        clear BK337
        clear HB
        have HO_325003 := n0_
        have HO_325004 := n1_
        have HO_325005 := n2_
        have HO_338003 := n3_
        have HO_338004 := n4_
        have HO_338005 := n5_
        have HO345 := n6_
        have HO348 := n7_
        have HO351 := n8_
        have BK282 := n9_
        have BK283 := n10_
        have BK324 := n11_
        have BK337 := n12_
        have HB := n13_
        clear n0_ n1_ n2_ n3_ n4_ n5_ n6_ n7_ n8_ n9_ n10_ n11_ n12_ n13_
        refine start_ (n := 5) (S := fun w' => w'.cell? ⟨gb337, 0, none⟩ = some (.int .i64 t325) ∧ w'.cell? ⟨gb337, 1, none⟩ = some (.int .i64 t326) ∧ w'.cell? ⟨gb337, 2, none⟩ = some (.int .i64 t327) ∧ w'.cell? ⟨gb337, 3, none⟩ = some (.slice Ao59 t328.length co59) ∧ w'.cell? ⟨gb337, 4, none⟩ = some (.slice Ao60 t331.length co60) ∧ w'.cell? ⟨gb337, 5, none⟩ = some (.slice Ao61 t334.length co61) ∧ w'.cell? ⟨gb283, 0, none⟩ = some (.int .i64 a1_0) ∧ w'.cell? ⟨gb283, 1, none⟩ = some (.int .i64 a1_1) ∧ w'.cell? ⟨gb283, 2, none⟩ = some (.int .i64 a1_2) ∧ w'.cell? ⟨gb283, 3, none⟩ = some (.slice A1_3 l1_3.length c1_3) ∧ w'.cell? ⟨gb283, 4, none⟩ = some (.slice A1_4 l1_4.length c1_4) ∧ w'.cell? ⟨gb283, 5, none⟩ = some (.slice A1_5 l1_5.length c1_5)) (ds := []) #[false, false, false, false, false] (by kernel_rfl) rfl rfl (ca6x9 BK337.out (cc6x9 BK283.out)) (fun hHeld => ?_)
        generalize w89.drew = w90 at HO_325003 HO_325004 HO_325005 HO_338003 HO_338004 HO_338005 HO345 HO348 HO351 BK282 BK283 BK324 BK337 HB hHeld ⊢
        refine take_ (i := 0) (N := some 53) (v := ?_) (a' := ?_) #[true, false, false, false, false] rfl rfl (by kernel_rfl) (fun _ _ _ h => h) (Or.inl ⟨by rfl, ?_⟩) hHeld ?_ ?_
        rotate_left
        ·rintro w' ⟨s0, s1, s2, s3, s4, s5, s6, s7, s8, s9, s10, s11⟩
         go_simp
         with_reducible rfl
        rotate_left
        ·simp only [Act.put, List.setIfInBounds_toArray, List.set_cons_zero, List.set_cons_succ, i64_w, i32_w]
         rfl
        refine take_ (i := 1) (N := some 54) (v := ?_) (a' := ?_) #[true, true, false, false, false] rfl rfl (by kernel_rfl) (fun _ _ _ h => h) (Or.inl ⟨by rfl, ?_⟩) hHeld ?_ ?_
        rotate_left
        ·rintro w' ⟨s0, s1, s2, s3, s4, s5, s6, s7, s8, s9, s10, s11⟩
         go_simp
         with_reducible rfl
        rotate_left
        ·simp only [Act.put, List.setIfInBounds_toArray, List.set_cons_zero, List.set_cons_succ, i64_w, i32_w]
         rfl
        refine one_ (i := 2) (N := some 55) #[true, true, true, false, false] rfl rfl (by kernel_rfl) (by decide) (fun K hK => ?_)
        refine goes_ Try.func19 (by kernel_rfl) rfl #[.agg #[.int .i64 a1_0, .int .i64 a1_1, .int .i64 a1_2, .slice A1_3 l1_3.length c1_3, .slice A1_4 l1_4.length c1_4, .slice A1_5 l1_5.length c1_5]] (by rfl) rfl rfl mpx9 ?_
        with_reducible refine (laws_toModel.calls kj24 a1_0 a1_1 a1_2 _ _ l1_3 _ _ l1_4 _ _ l1_5 t353 t354 t355 t356 t359 t362 _ ?side1 ?side2 ?side3 ?side4 ?side5 ?side6 A69.out).mono ?_
        (case side1 => exact rCx9 (Kd.C_below HR1_3.out HB.out))
        (case side2 => exact HC1_3.out)
        (case side3 => exact rCx9 (Kd.C_below HR1_4.out HB.out))
        (case side4 => exact HC1_4.out)
        (case side5 => exact rCx9 (Kd.C_below HR1_5.out HB.out))
        (case side6 => exact HC1_5.out)
        rintro e w91 ⟨v357, v360, v363, rfl, ho0, ho1, ho2, hb⟩
        refine ⟨_, rfl, ?_⟩
        have n0_ := Aside0.mk (kp3x9 (rRx9 HO_325003.out) hb ho0 ho1 ho2)
        have n1_ := Aside0.mk (kp3x9 (rRx9 HO_325004.out) hb ho0 ho1 ho2)
        have n2_ := Aside0.mk (kp3x9 (rRx9 HO_325005.out) hb ho0 ho1 ho2)
        have n3_ := Aside0.mk (kp3x9 (rRx9 HO_338003.out) hb ho0 ho1 ho2)
        have n4_ := Aside0.mk (kp3x9 (rRx9 HO_338004.out) hb ho0 ho1 ho2)
        have n5_ := Aside0.mk (kp3x9 (rRx9 HO_338005.out) hb ho0 ho1 ho2)
        have n6_ := Aside0.mk (kp3x9 (rRx9 HO345.out) hb ho0 ho1 ho2)
        have n7_ := Aside0.mk (kp3x9 (rRx9 HO348.out) hb ho0 ho1 ho2)
        have n8_ := Aside0.mk (kp3x9 (rRx9 HO351.out) hb ho0 ho1 ho2)
        have n9_ := Aside0.mk (Kd.R_lower (nwx9 (nwx9 (nwx9 (nwx9 (nwx9 (nwx9 (nwx9 (nwx9 (nwx9 ho0 (rRx9 HO_325003.out)) (rRx9 HO_325004.out)) (rRx9 HO_325005.out)) (rRx9 HO_338003.out)) (rRx9 HO_338004.out)) (rRx9 HO_338005.out)) (rRx9 HO345.out)) (rRx9 HO348.out)) (rRx9 HO351.out)) (below_size (be4x9 HB.out GE282.out GE283.out GE324.out GE337.out)))
        have n10_ := Aside0.mk (Kd.R_lower (nwx9 (nwx9 (nwx9 (nwx9 (nwx9 (nwx9 (nwx9 (nwx9 (nwx9 ho1 (rRx9 HO_325003.out)) (rRx9 HO_325004.out)) (rRx9 HO_325005.out)) (rRx9 HO_338003.out)) (rRx9 HO_338004.out)) (rRx9 HO_338005.out)) (rRx9 HO345.out)) (rRx9 HO348.out)) (rRx9 HO351.out)) (below_size (be4x9 HB.out GE282.out GE283.out GE324.out GE337.out)))
        have n11_ := Aside0.mk (Kd.R_lower (nwx9 (nwx9 (nwx9 (nwx9 (nwx9 (nwx9 (nwx9 (nwx9 (nwx9 ho2 (rRx9 HO_325003.out)) (rRx9 HO_325004.out)) (rRx9 HO_325005.out)) (rRx9 HO_338003.out)) (rRx9 HO_338004.out)) (rRx9 HO_338005.out)) (rRx9 HO345.out)) (rRx9 HO348.out)) (rRx9 HO351.out)) (below_size (be4x9 HB.out GE282.out GE283.out GE324.out GE337.out)))
        have n12_ := Aside0.mk (blk_below (g := gb282) (o := .cells #[.int .i64 a0_0, .int .i64 a0_1, .int .i64 a0_2, .slice A0_3 l0_3.length c0_3, .slice A0_4 l0_4.length c0_4, .slice A0_5 l0_5.length c0_5] 26 (0, 0)) (rBx9 BK282.out) hb)
        have n13_ := Aside0.mk (blk_below (g := gb283) (o := .cells #[.int .i64 a1_0, .int .i64 a1_1, .int .i64 a1_2, .slice A1_3 l1_3.length c1_3, .slice A1_4 l1_4.length c1_4, .slice A1_5 l1_5.length c1_5] 26 (0, 0)) (rBx9 BK283.out) hb)
        have n14_ := Aside0.mk (blk_below (g := gb324) (o := .cells #[.int .i64 t312, .int .i64 t313, .int .i64 t314, .slice Ao49 t315.length co49, .slice Ao50 t318.length co50, .slice Ao51 t321.length co51] 41 (0, 0)) (rBx9 BK324.out) hb)
        have n15_ := Aside0.mk (blk_below (g := gb337) (o := .cells #[.int .i64 t325, .int .i64 t326, .int .i64 t327, .slice Ao59 t328.length co59, .slice Ao60 t331.length co60, .slice Ao61 t334.length co61] 41 (0, 0)) (rBx9 BK337.out) hb)
        have n16_ := Aside0.mk (below_step (be4x9 HB.out GE282.out GE283.out GE324.out GE337.out) hb)
        clear HO_325003
        clear HO_325004
        clear HO_325005
        clear HO_338003
        clear HO_338004
        clear HO_338005
        clear HO345
        clear HO348
        clear HO351
        clear BK282
        clear BK283
        clear BK324
        clear BK337
        clear HB
        have HO_325003 := n0_
        have HO_325004 := n1_
        have HO_325005 := n2_
        have HO_338003 := n3_
        have HO_338004 := n4_
        have HO_338005 := n5_
        have HO345 := n6_
        have HO348 := n7_
        have HO351 := n8_
        have HO358 := n9_
        have HO361 := n10_
        have HO364 := n11_
        have BK282 := n12_
        have BK283 := n13_
        have BK324 := n14_
        have BK337 := n15_
        have HB := n16_
        clear n0_ n1_ n2_ n3_ n4_ n5_ n6_ n7_ n8_ n9_ n10_ n11_ n12_ n13_ n14_ n15_ n16_
        (try clear hb)
        (try clear hb2)
        (try clear hk)
        (try clear hi)
        (try clear ho0)
        (try clear ho1)
        (try clear ho2)
        obtain ⟨Ao92, co92, eo92⟩ := Kd.R_slice HO358.out
        (first | subst eo92 | (injection eo92 with f1_ f2_ f3_; have f4_ := f1_.symm; have f5_ := f3_.symm; clear f1_ f2_ f3_; subst f4_; subst f5_))
        obtain ⟨Ao93, co93, eo93⟩ := Kd.R_slice HO361.out
        (first | subst eo93 | (injection eo93 with f1_ f2_ f3_; have f4_ := f1_.symm; have f5_ := f3_.symm; clear f1_ f2_ f3_; subst f4_; subst f5_))
        obtain ⟨Ao94, co94, eo94⟩ := Kd.R_slice HO364.out
        (first | subst eo94 | (injection eo94 with f1_ f2_ f3_; have f4_ := f1_.symm; have f5_ := f3_.symm; clear f1_ f2_ f3_; subst f4_; subst f5_))
        refine hK.out _ _ (ca6x9 BK337.out (cc6x9 BK283.out)) (fun hHeld => ?_)
        clear hK K
        refine norm_ (a' := ?_) ?_ ?_
        rotate_left
        ·show Act.put _ (some 55) _ = _
         simp only [Act.put, List.setIfInBounds_toArray, List.set_cons_zero, List.set_cons_succ, i64_w, i32_w]
         rfl
        refine one_ (i := 3) (N := some 56) #[true, true, true, true, false] rfl rfl (by kernel_rfl) (by decide) (fun K hK => ?_)
        refine goes_ Try.func24 (by kernel_rfl) rfl #[.agg #[.int .i64 t325, .int .i64 t326, .int .i64 t327, .slice Ao59 t328.length co59, .slice Ao60 t331.length co60, .slice Ao61 t334.length co61], .agg #[.int .i64 t353, .int .i64 t354, .int .i64 t355, .slice Ao92 t356.length co92, .slice Ao93 t359.length co93, .slice Ao94 t362.length co94]] (by rfl) rfl rfl mpx9 ?_
        with_reducible refine (laws_eqModel.calls kj24 t325 t326 t327 _ _ t328 _ _ t331 _ _ t334 t353 t354 t355 _ _ t356 _ _ t359 _ _ t362 false _ ?side1 ?side2 ?side3 ?side4 ?side5 ?side6 ?side7 ?side8 ?side9 ?side10 ?side11 ?side12 A70.out).mono ?_
        (case side1 => exact cRx9 HO_338003.out)
        (case side2 => exact (Kd.R_reads' HO_338003.out).2.1)
        (case side3 => exact cRx9 HO_338004.out)
        (case side4 => exact (Kd.R_reads' HO_338004.out).2.1)
        (case side5 => exact cRx9 HO_338005.out)
        (case side6 => exact (Kd.R_reads' HO_338005.out).2.1)
        (case side7 => exact cRx9 HO358.out)
        (case side8 => exact (Kd.R_reads' HO358.out).2.1)
        (case side9 => exact cRx9 HO361.out)
        (case side10 => exact (Kd.R_reads' HO361.out).2.1)
        (case side11 => exact cRx9 HO364.out)
        (case side12 => exact (Kd.R_reads' HO364.out).2.1)
        rintro e w95 ⟨rfl, hb⟩
        refine ⟨_, rfl, ?_⟩
        have n0_ := Aside0.mk (Kd.R_below (rRx9 HO_325003.out) hb)
        have n1_ := Aside0.mk (Kd.R_below (rRx9 HO_325004.out) hb)
        have n2_ := Aside0.mk (Kd.R_below (rRx9 HO_325005.out) hb)
        have n3_ := Aside0.mk (Kd.R_below (rRx9 HO_338003.out) hb)
        have n4_ := Aside0.mk (Kd.R_below (rRx9 HO_338004.out) hb)
        have n5_ := Aside0.mk (Kd.R_below (rRx9 HO_338005.out) hb)
        have n6_ := Aside0.mk (Kd.R_below (rRx9 HO345.out) hb)
        have n7_ := Aside0.mk (Kd.R_below (rRx9 HO348.out) hb)
        have n8_ := Aside0.mk (Kd.R_below (rRx9 HO351.out) hb)
        have n9_ := Aside0.mk (Kd.R_below (rRx9 HO358.out) hb)
        have n10_ := Aside0.mk (Kd.R_below (rRx9 HO361.out) hb)
        have n11_ := Aside0.mk (Kd.R_below (rRx9 HO364.out) hb)
        have n12_ := Aside0.mk (blk_below (g := gb282) (o := .cells #[.int .i64 a0_0, .int .i64 a0_1, .int .i64 a0_2, .slice A0_3 l0_3.length c0_3, .slice A0_4 l0_4.length c0_4, .slice A0_5 l0_5.length c0_5] 26 (0, 0)) (rBx9 BK282.out) hb)
        have n13_ := Aside0.mk (blk_below (g := gb283) (o := .cells #[.int .i64 a1_0, .int .i64 a1_1, .int .i64 a1_2, .slice A1_3 l1_3.length c1_3, .slice A1_4 l1_4.length c1_4, .slice A1_5 l1_5.length c1_5] 26 (0, 0)) (rBx9 BK283.out) hb)
        have n14_ := Aside0.mk (blk_below (g := gb324) (o := .cells #[.int .i64 t312, .int .i64 t313, .int .i64 t314, .slice Ao49 t315.length co49, .slice Ao50 t318.length co50, .slice Ao51 t321.length co51] 41 (0, 0)) (rBx9 BK324.out) hb)
        have n15_ := Aside0.mk (blk_below (g := gb337) (o := .cells #[.int .i64 t325, .int .i64 t326, .int .i64 t327, .slice Ao59 t328.length co59, .slice Ao60 t331.length co60, .slice Ao61 t334.length co61] 41 (0, 0)) (rBx9 BK337.out) hb)
        have n16_ := Aside0.mk (below_step (be4x9 HB.out GE282.out GE283.out GE324.out GE337.out) hb)
        clear HO_325003
        clear HO_325004
        clear HO_325005
        clear HO_338003
        clear HO_338004
        clear HO_338005
        clear HO345
        clear HO348
        clear HO351
        clear HO358
        clear HO361
        clear HO364
        clear BK282
        clear BK283
        clear BK324
        clear BK337
        clear HB
        have HO_325003 := n0_
        have HO_325004 := n1_
        have HO_325005 := n2_
        have HO_338003 := n3_
        have HO_338004 := n4_
        have HO_338005 := n5_
        have HO345 := n6_
        have HO348 := n7_
        have HO351 := n8_
        have HO358 := n9_
        have HO361 := n10_
        have HO364 := n11_
        have BK282 := n12_
        have BK283 := n13_
        have BK324 := n14_
        have BK337 := n15_
        have HB := n16_
        clear n0_ n1_ n2_ n3_ n4_ n5_ n6_ n7_ n8_ n9_ n10_ n11_ n12_ n13_ n14_ n15_ n16_
        (try clear hb)
        (try clear hb2)
        (try clear hk)
        (try clear hi)
        refine hK.out _ _ (ca6x9 BK337.out (cc6x9 BK283.out)) (fun hHeld => ?_)
        clear hK K
        refine norm_ (a' := ?_) ?_ ?_
        rotate_left
        ·show Act.put _ (some 56) _ = _
         simp only [Act.put, List.setIfInBounds_toArray, List.set_cons_zero, List.set_cons_succ, i64_w, i32_w]
         rfl
        refine pure_ (i := 4) (N := some 57) (v := ?_) (a' := ?_) #[true, true, true, true, true] rfl rfl (by kernel_rfl) (fun _ _ _ h => h) (Or.inl ⟨by rfl, ?_⟩) ?_ ?_
        rotate_left
        ·intro w'
         go_simp
         with_reducible rfl
        rotate_left
        ·simp only [Act.put, List.setIfInBounds_toArray, List.set_cons_zero, List.set_cons_succ, i64_w, i32_w]
         rfl
        refine done_ (by kernel_rfl) ?_
        try go_wp2
        go_ret
        exact ⟨by first | rfl | (simp [errW_none, errW_some] <;> rfl) | (simp [*, errW_none, errW_some] <;> rfl), be4x9 HB.out GE282.out GE283.out GE324.out GE337.out⟩
      ·replace c68 := Bool.eq_false_iff.mpr c68
       subst c68
       have H1 : (some false) = some r := by rw [if_neg (show ¬ (false = true) by decide)] at H; exact H
       clear H
       have H := H1
       clear H1
       obtain rfl := Option.some.inj H
       try go_wp2
       have n0_ := Aside0.mk (Kd.R_drew HO_325003.out)
       have n1_ := Aside0.mk (Kd.R_drew HO_325004.out)
       have n2_ := Aside0.mk (Kd.R_drew HO_325005.out)
       have n3_ := Aside0.mk (Kd.R_drew HO_338003.out)
       have n4_ := Aside0.mk (Kd.R_drew HO_338004.out)
       have n5_ := Aside0.mk (Kd.R_drew HO_338005.out)
       have n6_ := Aside0.mk (blk_drew BK282.out)
       have n7_ := Aside0.mk (blk_drew BK283.out)
       have n8_ := Aside0.mk (blk_drew BK324.out)
       have n9_ := Aside0.mk (blk_drew BK337.out)
       have n10_ := Aside0.mk (below_drew1 HB.out)
       clear HO_325003
       clear HO_325004
       clear HO_325005
       clear HO_338003
       clear HO_338004
       clear HO_338005
       clear BK282
       clear BK283
       clear BK324
       clear BK337
       clear HB
       have HO_325003 := n0_
       have HO_325004 := n1_
       have HO_325005 := n2_
       have HO_338003 := n3_
       have HO_338004 := n4_
       have HO_338005 := n5_
       have BK282 := n6_
       have BK283 := n7_
       have BK324 := n8_
       have BK337 := n9_
       have HB := n10_
       clear n0_ n1_ n2_ n3_ n4_ n5_ n6_ n7_ n8_ n9_ n10_
       refine start_ (n := 5) (S := fun w' => w'.cell? ⟨gb324, 0, none⟩ = some (.int .i64 t312) ∧ w'.cell? ⟨gb324, 1, none⟩ = some (.int .i64 t313) ∧ w'.cell? ⟨gb324, 2, none⟩ = some (.int .i64 t314) ∧ w'.cell? ⟨gb324, 3, none⟩ = some (.slice Ao49 t315.length co49) ∧ w'.cell? ⟨gb324, 4, none⟩ = some (.slice Ao50 t318.length co50) ∧ w'.cell? ⟨gb324, 5, none⟩ = some (.slice Ao51 t321.length co51) ∧ w'.cell? ⟨gb282, 0, none⟩ = some (.int .i64 a0_0) ∧ w'.cell? ⟨gb282, 1, none⟩ = some (.int .i64 a0_1) ∧ w'.cell? ⟨gb282, 2, none⟩ = some (.int .i64 a0_2) ∧ w'.cell? ⟨gb282, 3, none⟩ = some (.slice A0_3 l0_3.length c0_3) ∧ w'.cell? ⟨gb282, 4, none⟩ = some (.slice A0_4 l0_4.length c0_4) ∧ w'.cell? ⟨gb282, 5, none⟩ = some (.slice A0_5 l0_5.length c0_5)) (ds := []) #[false, false, false, false, false] (by kernel_rfl) rfl rfl (ca6x9 BK324.out (cc6x9 BK282.out)) (fun hHeld => ?_)
       generalize wc.drew = w96 at HO_325003 HO_325004 HO_325005 HO_338003 HO_338004 HO_338005 BK282 BK283 BK324 BK337 HB hHeld ⊢
       refine take_ (i := 0) (N := some 48) (v := ?_) (a' := ?_) #[true, false, false, false, false] rfl rfl (by kernel_rfl) (fun _ _ _ h => h) (Or.inl ⟨by rfl, ?_⟩) hHeld ?_ ?_
       rotate_left
       ·rintro w' ⟨s0, s1, s2, s3, s4, s5, s6, s7, s8, s9, s10, s11⟩
        go_simp
        with_reducible rfl
       rotate_left
       ·simp only [Act.put, List.setIfInBounds_toArray, List.set_cons_zero, List.set_cons_succ, i64_w, i32_w]
        rfl
       refine take_ (i := 1) (N := some 49) (v := ?_) (a' := ?_) #[true, true, false, false, false] rfl rfl (by kernel_rfl) (fun _ _ _ h => h) (Or.inl ⟨by rfl, ?_⟩) hHeld ?_ ?_
       rotate_left
       ·rintro w' ⟨s0, s1, s2, s3, s4, s5, s6, s7, s8, s9, s10, s11⟩
        go_simp
        with_reducible rfl
       rotate_left
       ·simp only [Act.put, List.setIfInBounds_toArray, List.set_cons_zero, List.set_cons_succ, i64_w, i32_w]
        rfl
       refine one_ (i := 2) (N := some 50) #[true, true, true, false, false] rfl rfl (by kernel_rfl) (by decide) (fun K hK => ?_)
       refine goes_ Try.func19 (by kernel_rfl) rfl #[.agg #[.int .i64 a0_0, .int .i64 a0_1, .int .i64 a0_2, .slice A0_3 l0_3.length c0_3, .slice A0_4 l0_4.length c0_4, .slice A0_5 l0_5.length c0_5]] (by rfl) rfl rfl mpx9 ?_
       with_reducible refine (laws_toModel.calls kj24 a0_0 a0_1 a0_2 _ _ l0_3 _ _ l0_4 _ _ l0_5 t340 t341 t342 t343 t346 t349 _ ?side1 ?side2 ?side3 ?side4 ?side5 ?side6 A66.out).mono ?_
       (case side1 => exact rCx9 (Kd.C_below HR0_3.out HB.out))
       (case side2 => exact HC0_3.out)
       (case side3 => exact rCx9 (Kd.C_below HR0_4.out HB.out))
       (case side4 => exact HC0_4.out)
       (case side5 => exact rCx9 (Kd.C_below HR0_5.out HB.out))
       (case side6 => exact HC0_5.out)
       rintro e w97 ⟨v344, v347, v350, rfl, ho0, ho1, ho2, hb⟩
       refine ⟨_, rfl, ?_⟩
       have n0_ := Aside0.mk (kp3x9 (rRx9 HO_325003.out) hb ho0 ho1 ho2)
       have n1_ := Aside0.mk (kp3x9 (rRx9 HO_325004.out) hb ho0 ho1 ho2)
       have n2_ := Aside0.mk (kp3x9 (rRx9 HO_325005.out) hb ho0 ho1 ho2)
       have n3_ := Aside0.mk (kp3x9 (rRx9 HO_338003.out) hb ho0 ho1 ho2)
       have n4_ := Aside0.mk (kp3x9 (rRx9 HO_338004.out) hb ho0 ho1 ho2)
       have n5_ := Aside0.mk (kp3x9 (rRx9 HO_338005.out) hb ho0 ho1 ho2)
       have n6_ := Aside0.mk (Kd.R_lower (nwx9 (nwx9 (nwx9 (nwx9 (nwx9 (nwx9 ho0 (rRx9 HO_325003.out)) (rRx9 HO_325004.out)) (rRx9 HO_325005.out)) (rRx9 HO_338003.out)) (rRx9 HO_338004.out)) (rRx9 HO_338005.out)) (below_size (be4x9 HB.out GE282.out GE283.out GE324.out GE337.out)))
       have n7_ := Aside0.mk (Kd.R_lower (nwx9 (nwx9 (nwx9 (nwx9 (nwx9 (nwx9 ho1 (rRx9 HO_325003.out)) (rRx9 HO_325004.out)) (rRx9 HO_325005.out)) (rRx9 HO_338003.out)) (rRx9 HO_338004.out)) (rRx9 HO_338005.out)) (below_size (be4x9 HB.out GE282.out GE283.out GE324.out GE337.out)))
       have n8_ := Aside0.mk (Kd.R_lower (nwx9 (nwx9 (nwx9 (nwx9 (nwx9 (nwx9 ho2 (rRx9 HO_325003.out)) (rRx9 HO_325004.out)) (rRx9 HO_325005.out)) (rRx9 HO_338003.out)) (rRx9 HO_338004.out)) (rRx9 HO_338005.out)) (below_size (be4x9 HB.out GE282.out GE283.out GE324.out GE337.out)))
       have n9_ := Aside0.mk (blk_below (g := gb282) (o := .cells #[.int .i64 a0_0, .int .i64 a0_1, .int .i64 a0_2, .slice A0_3 l0_3.length c0_3, .slice A0_4 l0_4.length c0_4, .slice A0_5 l0_5.length c0_5] 26 (0, 0)) (rBx9 BK282.out) hb)
       have n10_ := Aside0.mk (blk_below (g := gb283) (o := .cells #[.int .i64 a1_0, .int .i64 a1_1, .int .i64 a1_2, .slice A1_3 l1_3.length c1_3, .slice A1_4 l1_4.length c1_4, .slice A1_5 l1_5.length c1_5] 26 (0, 0)) (rBx9 BK283.out) hb)
       have n11_ := Aside0.mk (blk_below (g := gb324) (o := .cells #[.int .i64 t312, .int .i64 t313, .int .i64 t314, .slice Ao49 t315.length co49, .slice Ao50 t318.length co50, .slice Ao51 t321.length co51] 41 (0, 0)) (rBx9 BK324.out) hb)
       have n12_ := Aside0.mk (blk_below (g := gb337) (o := .cells #[.int .i64 t325, .int .i64 t326, .int .i64 t327, .slice Ao59 t328.length co59, .slice Ao60 t331.length co60, .slice Ao61 t334.length co61] 41 (0, 0)) (rBx9 BK337.out) hb)
       have n13_ := Aside0.mk (below_step (be4x9 HB.out GE282.out GE283.out GE324.out GE337.out) hb)
       clear HO_325003
       clear HO_325004
       clear HO_325005
       clear HO_338003
       clear HO_338004
       clear HO_338005
       clear BK282
       clear BK283
       clear BK324
       clear BK337
       clear HB
       have HO_325003 := n0_
       have HO_325004 := n1_
       have HO_325005 := n2_
       have HO_338003 := n3_
       have HO_338004 := n4_
       have HO_338005 := n5_
       have HO345 := n6_
       have HO348 := n7_
       have HO351 := n8_
       have BK282 := n9_
       have BK283 := n10_
       have BK324 := n11_
       have BK337 := n12_
       have HB := n13_
       clear n0_ n1_ n2_ n3_ n4_ n5_ n6_ n7_ n8_ n9_ n10_ n11_ n12_ n13_
       (try clear hb)
       (try clear hb2)
       (try clear hk)
       (try clear hi)
       (try clear ho0)
       (try clear ho1)
       (try clear ho2)
       obtain ⟨Ao98, co98, eo98⟩ := Kd.R_slice HO345.out
       (first | subst eo98 | (injection eo98 with f1_ f2_ f3_; have f4_ := f1_.symm; have f5_ := f3_.symm; clear f1_ f2_ f3_; subst f4_; subst f5_))
       obtain ⟨Ao99, co99, eo99⟩ := Kd.R_slice HO348.out
       (first | subst eo99 | (injection eo99 with f1_ f2_ f3_; have f4_ := f1_.symm; have f5_ := f3_.symm; clear f1_ f2_ f3_; subst f4_; subst f5_))
       obtain ⟨Ao100, co100, eo100⟩ := Kd.R_slice HO351.out
       (first | subst eo100 | (injection eo100 with f1_ f2_ f3_; have f4_ := f1_.symm; have f5_ := f3_.symm; clear f1_ f2_ f3_; subst f4_; subst f5_))
       refine hK.out _ _ (ca6x9 BK324.out (cc6x9 BK282.out)) (fun hHeld => ?_)
       clear hK K
       refine norm_ (a' := ?_) ?_ ?_
       rotate_left
       ·show Act.put _ (some 50) _ = _
        simp only [Act.put, List.setIfInBounds_toArray, List.set_cons_zero, List.set_cons_succ, i64_w, i32_w]
        rfl
       refine one_ (i := 3) (N := some 51) #[true, true, true, true, false] rfl rfl (by kernel_rfl) (by decide) (fun K hK => ?_)
       refine goes_ Try.func24 (by kernel_rfl) rfl #[.agg #[.int .i64 t312, .int .i64 t313, .int .i64 t314, .slice Ao49 t315.length co49, .slice Ao50 t318.length co50, .slice Ao51 t321.length co51], .agg #[.int .i64 t340, .int .i64 t341, .int .i64 t342, .slice Ao98 t343.length co98, .slice Ao99 t346.length co99, .slice Ao100 t349.length co100]] (by rfl) rfl rfl mpx9 ?_
       with_reducible refine (laws_eqModel.calls kj24 t312 t313 t314 _ _ t315 _ _ t318 _ _ t321 t340 t341 t342 _ _ t343 _ _ t346 _ _ t349 false _ ?side1 ?side2 ?side3 ?side4 ?side5 ?side6 ?side7 ?side8 ?side9 ?side10 ?side11 ?side12 A67.out).mono ?_
       (case side1 => exact cRx9 HO_325003.out)
       (case side2 => exact (Kd.R_reads' HO_325003.out).2.1)
       (case side3 => exact cRx9 HO_325004.out)
       (case side4 => exact (Kd.R_reads' HO_325004.out).2.1)
       (case side5 => exact cRx9 HO_325005.out)
       (case side6 => exact (Kd.R_reads' HO_325005.out).2.1)
       (case side7 => exact cRx9 HO345.out)
       (case side8 => exact (Kd.R_reads' HO345.out).2.1)
       (case side9 => exact cRx9 HO348.out)
       (case side10 => exact (Kd.R_reads' HO348.out).2.1)
       (case side11 => exact cRx9 HO351.out)
       (case side12 => exact (Kd.R_reads' HO351.out).2.1)
       rintro e w101 ⟨rfl, hb⟩
       refine ⟨_, rfl, ?_⟩
       have n0_ := Aside0.mk (Kd.R_below (rRx9 HO_325003.out) hb)
       have n1_ := Aside0.mk (Kd.R_below (rRx9 HO_325004.out) hb)
       have n2_ := Aside0.mk (Kd.R_below (rRx9 HO_325005.out) hb)
       have n3_ := Aside0.mk (Kd.R_below (rRx9 HO_338003.out) hb)
       have n4_ := Aside0.mk (Kd.R_below (rRx9 HO_338004.out) hb)
       have n5_ := Aside0.mk (Kd.R_below (rRx9 HO_338005.out) hb)
       have n6_ := Aside0.mk (Kd.R_below (rRx9 HO345.out) hb)
       have n7_ := Aside0.mk (Kd.R_below (rRx9 HO348.out) hb)
       have n8_ := Aside0.mk (Kd.R_below (rRx9 HO351.out) hb)
       have n9_ := Aside0.mk (blk_below (g := gb282) (o := .cells #[.int .i64 a0_0, .int .i64 a0_1, .int .i64 a0_2, .slice A0_3 l0_3.length c0_3, .slice A0_4 l0_4.length c0_4, .slice A0_5 l0_5.length c0_5] 26 (0, 0)) (rBx9 BK282.out) hb)
       have n10_ := Aside0.mk (blk_below (g := gb283) (o := .cells #[.int .i64 a1_0, .int .i64 a1_1, .int .i64 a1_2, .slice A1_3 l1_3.length c1_3, .slice A1_4 l1_4.length c1_4, .slice A1_5 l1_5.length c1_5] 26 (0, 0)) (rBx9 BK283.out) hb)
       have n11_ := Aside0.mk (blk_below (g := gb324) (o := .cells #[.int .i64 t312, .int .i64 t313, .int .i64 t314, .slice Ao49 t315.length co49, .slice Ao50 t318.length co50, .slice Ao51 t321.length co51] 41 (0, 0)) (rBx9 BK324.out) hb)
       have n12_ := Aside0.mk (blk_below (g := gb337) (o := .cells #[.int .i64 t325, .int .i64 t326, .int .i64 t327, .slice Ao59 t328.length co59, .slice Ao60 t331.length co60, .slice Ao61 t334.length co61] 41 (0, 0)) (rBx9 BK337.out) hb)
       have n13_ := Aside0.mk (below_step (be4x9 HB.out GE282.out GE283.out GE324.out GE337.out) hb)
       clear HO_325003
       clear HO_325004
       clear HO_325005
       clear HO_338003
       clear HO_338004
       clear HO_338005
       clear HO345
       clear HO348
       clear HO351
       clear BK282
       clear BK283
       clear BK324
       clear BK337
       clear HB
       have HO_325003 := n0_
       have HO_325004 := n1_
       have HO_325005 := n2_
       have HO_338003 := n3_
       have HO_338004 := n4_
       have HO_338005 := n5_
       have HO345 := n6_
       have HO348 := n7_
       have HO351 := n8_
       have BK282 := n9_
       have BK283 := n10_
       have BK324 := n11_
       have BK337 := n12_
       have HB := n13_
       clear n0_ n1_ n2_ n3_ n4_ n5_ n6_ n7_ n8_ n9_ n10_ n11_ n12_ n13_
       (try clear hb)
       (try clear hb2)
       (try clear hk)
       (try clear hi)
       refine hK.out _ _ (ca6x9 BK324.out (cc6x9 BK282.out)) (fun hHeld => ?_)
       clear hK K
       refine norm_ (a' := ?_) ?_ ?_
       rotate_left
       ·show Act.put _ (some 51) _ = _
        simp only [Act.put, List.setIfInBounds_toArray, List.set_cons_zero, List.set_cons_succ, i64_w, i32_w]
        rfl
       refine pure_ (i := 4) (N := some 52) (v := ?_) (a' := ?_) #[true, true, true, true, true] rfl rfl (by kernel_rfl) (fun _ _ _ h => h) (Or.inl ⟨by rfl, ?_⟩) ?_ ?_
       rotate_left
       ·intro w'
        go_simp
        with_reducible rfl
       rotate_left
       ·simp only [Act.put, List.setIfInBounds_toArray, List.set_cons_zero, List.set_cons_succ, i64_w, i32_w]
        rfl
       refine done_ (by kernel_rfl) ?_
       try go_wp2
       go_ret
       exact ⟨by first | rfl | (simp [errW_none, errW_some] <;> rfl) | (simp [*, errW_none, errW_some] <;> rfl), be4x9 HB.out GE282.out GE283.out GE324.out GE337.out⟩

end Go.Proofs.Ytagnldmaglbpaaa.PFnExactWorstLevel
