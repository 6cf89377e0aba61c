/- This text is this session's own, not the print's: programs (wip/squeeze.py and others) made it out of what print.sh, or wip/ownprint.py, had written (BYTES set higher), its facts said by short words. -/
import Derived.Test.YtagnldmaglbpaaaPFnExactDestinationOfx0
import Derived.Test.YtagnldmaglbpaaaPFnExactDestinationOfx1
import Derived.Test.YtagnldmaglbpaaaPFnExactDestinationOfx2
import Derived.Test.YtagnldmaglbpaaaPFnExactDestinationOfx5
import Derived.Test.YtagnldmaglbpaaaPFnExactDestinationOfx9
import Derived.Test.YtagnldmaglbpaaaPFnExactDestinationOfwx10
namespace Go.Proofs.Ytagnldmaglbpaaa.PFnExactDestinationOf
open Go.RowKit Go.Proofs.YtagnldmaglbpaaaW.PrintWords Go.Proofs.YtagnldmaglbpaaaW.PrintLast Go.Proofs.YtagnldmaglbpaaaW.PrintMore
attribute [local go_sem] max2_int min2_int max_two min_two max_three min_three max_four min_four   -- for this text's walks alone
set_option linter.unusedVariables false
set_option linter.unusedSimpArgs false

/-! ### laws_FnExactDestinationOf: function 13 -/
def laws_FnExactDestinationOf.j0 : Nat → Bool → Int → Int → Int → List Int → List Int → List Int → List (List Int) → List Int → List Int → Int → Int → Int → Int → Int → Int → Int → Int → List Int → List Int → List Int → List (List Int) → List Int → List Int → Int → Int → Int → Int → Int → Option (Bool)
 | 0, _, _, _, _, _, _, _, _, _, _, _, _, _, _, _, _, _, _, _, _, _, _, _, _, _, _, _, _, _ => none
 | k + 1, x55, x264000, x264001, x264002, x264003, x264004, x264005, x265000, x265001, x265002, x265003, x265004, x265005, x265006, x265007, x308000, x308001, x308002, x308003, x308004, x308005, x323000, x323001, x323002, x323003, x323004, x323005, x323006, x323007 => if x55 = true then (some false) else ((laws_toModel.f k x264000 x264001 x264002 x264003 x264004 x264005).bind fun bt325 => ((laws_eqModel.f k x308000 x308001 x308002 x308003 x308004 x308005 bt325.1 bt325.2.1 bt325.2.2.1 bt325.2.2.2.1 bt325.2.2.2.2.1 bt325.2.2.2.2.2).bind fun t337 => (if t337 = true then ((laws_toJob.f k x265000 x265001 x265002 x265003 x265004 x265005 x265006 x265007).bind fun bt338 => ((laws_eqJob.f k x323000 x323001 x323002 x323003 x323004 x323005 x323006 x323007 bt338.1 bt338.2.1 bt338.2.2.1 bt338.2.2.2.1 bt338.2.2.2.2.1 bt338.2.2.2.2.2.1 bt338.2.2.2.2.2.2.1 bt338.2.2.2.2.2.2.2).bind fun t352 => (if t352 = true then (some true) else (some false)))) else (some false))))
def laws_FnExactDestinationOf.f (k : Nat) (a0_0 : Int) (a0_1 : Int) (a0_2 : Int) (l0_3 : List Int) (l0_4 : List Int) (l0_5 : List Int) (l1_0 : List (List Int)) (l1_1 : List Int) (l1_2 : List Int) (a1_3 : Int) (a1_4 : Int) (a1_5 : Int) (a1_6 : Int) (a1_7 : Int) (a2 : Int) (a3 : Int) : Option (Bool) := (laws_szModel.f a0_0 a0_1 a0_2 l0_3 l0_4 l0_5 1048576).bind fun t265 => (if t265 < 0 then (some true) else ((laws_szJob.f k l1_0 l1_1 l1_2 a1_3 a1_4 a1_5 a1_6 a1_7 t265).bind fun t266 => (if t266 < 0 then (some true) else ((laws_toModel.f k a0_0 a0_1 a0_2 l0_3 l0_4 l0_5).bind fun bt267 => ((laws_toJob.f k l1_0 l1_1 l1_2 a1_3 a1_4 a1_5 a1_6 a1_7).bind fun bt279 => ((spec_DestinationOf.f k bt267.1 bt267.2.1 bt267.2.2.1 bt267.2.2.2.1 bt267.2.2.2.2.1 bt267.2.2.2.2.2 bt279.1 bt279.2.1 bt279.2.2.1 bt279.2.2.2.1 bt279.2.2.2.2.1 bt279.2.2.2.2.2.1 bt279.2.2.2.2.2.2.1 bt279.2.2.2.2.2.2.2 a2 a3).bind fun bt293 => ((laws_toModel.f k a0_0 a0_1 a0_2 l0_3 l0_4 l0_5).bind fun bt295 => ((laws_toJob.f k l1_0 l1_1 l1_2 a1_3 a1_4 a1_5 a1_6 a1_7).bind fun bt308 => ((impl_DestinationOf.f k bt295.1 bt295.2.1 bt295.2.2.1 bt295.2.2.2.1 bt295.2.2.2.2.1 bt295.2.2.2.2.2 bt308.1 bt308.2.1 bt308.2.2.1 bt308.2.2.2.1 bt308.2.2.2.2.1 bt308.2.2.2.2.2.1 bt308.2.2.2.2.2.2.1 bt308.2.2.2.2.2.2.2 a2 a3).bind fun bt323 => (if bt323.1 = bt293.1 then (laws_FnExactDestinationOf.j0 k (bt323.2 != bt293.2) a0_0 a0_1 a0_2 l0_3 l0_4 l0_5 l1_0 l1_1 l1_2 a1_3 a1_4 a1_5 a1_6 a1_7 bt295.1 bt295.2.1 bt295.2.2.1 bt295.2.2.2.1 bt295.2.2.2.2.1 bt295.2.2.2.2.2 bt308.1 bt308.2.1 bt308.2.2.1 bt308.2.2.2.1 bt308.2.2.2.2.1 bt308.2.2.2.2.2.1 bt308.2.2.2.2.2.2.1 bt308.2.2.2.2.2.2.2) else (laws_FnExactDestinationOf.j0 k true a0_0 a0_1 a0_2 l0_3 l0_4 l0_5 l1_0 l1_1 l1_2 a1_3 a1_4 a1_5 a1_6 a1_7 bt295.1 bt295.2.1 bt295.2.2.1 bt295.2.2.2.1 bt295.2.2.2.2.1 bt295.2.2.2.2.2 bt308.1 bt308.2.1 bt308.2.2.1 bt308.2.2.2.1 bt308.2.2.2.2.1 bt308.2.2.2.2.2.1 bt308.2.2.2.2.2.2.1 bt308.2.2.2.2.2.2.2)))))))))))
def laws_FnExactDestinationOf.T8 : Bool × List (List Nat × List Nat) := (true, [([], []), ([0], [0]), ([], []), ([2, 1], [2]), ([], []), ([], []), ([1, 3, 4, 5, 3], [1, 3, 4, 5]), ([6], [6]), ([7], [7]), ([7], [7]), ([8, 6, 0, 1, 2, 3, 4, 5, 6, 7, 8], [8]), ([9, 10, 0, 1, 2, 3, 4, 5, 6, 7, 8, 9, 10], [9])])
def laws_FnExactDestinationOf.B8 : List Nat := [0, 1, 0, 7, 0, 0, 63, 127, 255, 255, 511, 2047]
theorem laws_FnExactDestinationOf.tab8 : rtab .any (opsOf Try.f13 8) = laws_FnExactDestinationOf.T8 := by kernel_rfl
theorem laws_FnExactDestinationOf.bits8 : waitsOk laws_FnExactDestinationOf.T8.2 laws_FnExactDestinationOf.B8 = true := by kernel_rfl
set_option maxHeartbeats 8000000 in
set_option maxRecDepth 100000 in
theorem laws_FnExactDestinationOf.calls (k : Nat) (a0_0 : Int) (a0_1 : Int) (a0_2 : Int) (A0_3 : Option Addr) (c0_3 : Nat) (l0_3 : List Int) (A0_4 : Option Addr) (c0_4 : Nat) (l0_4 : List Int) (A0_5 : Option Addr) (c0_5 : Nat) (l0_5 : List Int) (A1_0 : Option Addr) (c1_0 : Nat) (l1_0 : List (List Int)) (A1_1 : Option Addr) (c1_1 : Nat) (l1_1 : List Int) (A1_2 : Option Addr) (c1_2 : Nat) (l1_2 : List Int) (a1_3 : Int) (a1_4 : Int) (a1_5 : Int) (a1_6 : Int) (a1_7 : Int) (a2 : Int) (a3 : Int) (r : Bool) (w : World) (hr0_3 : Kd.C (Kd.int .i64) w A0_3 l0_3.length l0_3) (hc0_3 : l0_3.length ≤ c0_3) (hr0_4 : Kd.C (Kd.int .i64) w A0_4 l0_4.length l0_4) (hc0_4 : l0_4.length ≤ c0_4) (hr0_5 : Kd.C (Kd.int .i64) w A0_5 l0_5.length l0_5) (hc0_5 : l0_5.length ≤ c0_5) (hr1_0 : Kd.C (Kd.slice 3 (Kd.int .i64)) w A1_0 l1_0.length l1_0) (hc1_0 : l1_0.length ≤ c1_0) (hr1_1 : Kd.C (Kd.int .i64) w A1_1 l1_1.length l1_1) (hc1_1 : l1_1.length ≤ c1_1) (hr1_2 : Kd.C (Kd.int .i64) w A1_2 l1_2.length l1_2) (hc1_2 : l1_2.length ≤ c1_2) (h : laws_FnExactDestinationOf.f k a0_0 a0_1 a0_2 l0_3 l0_4 l0_5 l1_0 l1_1 l1_2 a1_3 a1_4 a1_5 a1_6 a1_7 a2 a3 = some r) :
  Calls Try.prog 13 #[.agg #[.int .i64 a0_0, .int .i64 a0_1, .int .i64 a0_2, .slice A0_3 l0_3.length c0_3, .slice A0_4 l0_4.length c0_4, .slice A0_5 l0_5.length c0_5], .agg #[.slice A1_0 l1_0.length c1_0, .slice A1_1 l1_1.length c1_1, .slice A1_2 l1_2.length c1_2, .int .i64 a1_3, .int .i64 a1_4, .int .i64 a1_5, .int .i64 a1_6, .int .i64 a1_7], .int .i64 a2, .int .i64 a3] w fun e w' => e = .returned (.bool r) ∧ Below w.heap.size w w' := by
 have hu26 := Try.underlying26
 have hu31 := Try.underlying31
 have hu41 := Try.underlying41
 have hu45 := Try.underlying45
 have HR0_3 := Aside0.mk hr0_3
 have HC0_3 := Aside0.mk hc0_3
 clear hr0_3 hc0_3
 have HR0_4 := Aside0.mk hr0_4
 have HC0_4 := Aside0.mk hc0_4
 clear hr0_4 hc0_4
 have HR0_5 := Aside0.mk hr0_5
 have HC0_5 := Aside0.mk hc0_5
 clear hr0_5 hc0_5
 have HR1_0 := Aside0.mk hr1_0
 have HC1_0 := Aside0.mk hc1_0
 clear hr1_0 hc1_0
 have HR1_1 := Aside0.mk hr1_1
 have HC1_1 := Aside0.mk hc1_1
 clear hr1_1 hc1_1
 have HR1_2 := Aside0.mk hr1_2
 have HC1_2 := Aside0.mk hc1_2
 clear hr1_2 hc1_2
 have HB := Aside0.mk (Below.refl w.heap.size w)
 have H : ((laws_szModel.f a0_0 a0_1 a0_2 l0_3 l0_4 l0_5 1048576).bind fun t265 => (if t265 < 0 then (some true) else ((laws_szJob.f k l1_0 l1_1 l1_2 a1_3 a1_4 a1_5 a1_6 a1_7 t265).bind fun t266 => (if t266 < 0 then (some true) else ((laws_toModel.f k a0_0 a0_1 a0_2 l0_3 l0_4 l0_5).bind fun bt267 => ((laws_toJob.f k l1_0 l1_1 l1_2 a1_3 a1_4 a1_5 a1_6 a1_7).bind fun bt279 => ((spec_DestinationOf.f k bt267.1 bt267.2.1 bt267.2.2.1 bt267.2.2.2.1 bt267.2.2.2.2.1 bt267.2.2.2.2.2 bt279.1 bt279.2.1 bt279.2.2.1 bt279.2.2.2.1 bt279.2.2.2.2.1 bt279.2.2.2.2.2.1 bt279.2.2.2.2.2.2.1 bt279.2.2.2.2.2.2.2 a2 a3).bind fun bt293 => ((laws_toModel.f k a0_0 a0_1 a0_2 l0_3 l0_4 l0_5).bind fun bt295 => ((laws_toJob.f k l1_0 l1_1 l1_2 a1_3 a1_4 a1_5 a1_6 a1_7).bind fun bt308 => ((impl_DestinationOf.f k bt295.1 bt295.2.1 bt295.2.2.1 bt295.2.2.2.1 bt295.2.2.2.2.1 bt295.2.2.2.2.2 bt308.1 bt308.2.1 bt308.2.2.1 bt308.2.2.2.1 bt308.2.2.2.2.1 bt308.2.2.2.2.2.1 bt308.2.2.2.2.2.2.1 bt308.2.2.2.2.2.2.2 a2 a3).bind fun bt323 => (if bt323.1 = bt293.1 then (laws_FnExactDestinationOf.j0 k (bt323.2 != bt293.2) a0_0 a0_1 a0_2 l0_3 l0_4 l0_5 l1_0 l1_1 l1_2 a1_3 a1_4 a1_5 a1_6 a1_7 bt295.1 bt295.2.1 bt295.2.2.1 bt295.2.2.2.1 bt295.2.2.2.2.1 bt295.2.2.2.2.2 bt308.1 bt308.2.1 bt308.2.2.1 bt308.2.2.2.1 bt308.2.2.2.2.1 bt308.2.2.2.2.2.1 bt308.2.2.2.2.2.2.1 bt308.2.2.2.2.2.2.2) else (laws_FnExactDestinationOf.j0 k true a0_0 a0_1 a0_2 l0_3 l0_4 l0_5 l1_0 l1_1 l1_2 a1_3 a1_4 a1_5 a1_6 a1_7 bt295.1 bt295.2.1 bt295.2.2.1 bt295.2.2.2.1 bt295.2.2.2.2.1 bt295.2.2.2.2.2 bt308.1 bt308.2.1 bt308.2.2.1 bt308.2.2.2.1 bt308.2.2.2.2.1 bt308.2.2.2.2.2.1 bt308.2.2.2.2.2.2.1 bt308.2.2.2.2.2.2.2)))))))))))) = some r := h
 clear h
 replace H := Option.bind_eq_some_iff.mp H
 obtain ⟨t265, A50, H⟩ := H
 have A5 := Aside0.mk A50
 clear A50
 by_cases c6 : t265 < 0
 ·rw [if_pos c6] at H
  have c6b0 : decide (t265 < 0) = true := decide_eq_true c6
  clear c6
  obtain rfl := Option.some.inj H
  go_enter Try.func13, Try.ntmps13
  go_wp2_with (first | ((with_reducible refine gate_dst (N := 4) rfl ?_); refine box_event ?hg (N := 4) ?hd (cs := #[.int .i64 a0_0, .int .i64 a0_1, .int .i64 a0_2, .slice A0_3 l0_3.length c0_3, .slice A0_4 l0_4.length c0_4, .slice A0_5 l0_5.length c0_5]) (t := 26) ?hr ?_; (case hd => rfl); (case hg => rfl); (case hr => first | (go_simp; done) | (go_simp; rfl)); intro gb263 hg w7 hbox hb; have BK263 := Aside0.mk (hbox); have GW263 := Aside0.mk ((by rw [hg]; exact (below_size (be0x10 HB.out)) : w.heap.size ≤ gb263)); have GE263 := Aside0.mk ((by rw [hg]; exact (below_size (be0x10 HB.out)) : w.heap.size ≤ gb263)); replace HB := Aside0.mk (below_step (be0x10 HB.out) hb); clear hb hbox hg) | ((with_reducible refine gate_dst (N := 5) rfl ?_); refine box_event ?hg (N := 5) ?hd (cs := #[.slice A1_0 l1_0.length c1_0, .slice A1_1 l1_1.length c1_1, .slice A1_2 l1_2.length c1_2, .int .i64 a1_3, .int .i64 a1_4, .int .i64 a1_5, .int .i64 a1_6, .int .i64 a1_7]) (t := 31) ?hr ?_; (case hd => rfl); (case hg => rfl); (case hr => first | (go_simp; done) | (go_simp; rfl)); intro gb264 hg w8 hbox hb; have BK264 := Aside0.mk (hbox); have GW264 := Aside0.mk ((by rw [hg]; exact (below_size (be1x10 HB.out GE263.out)) : w.heap.size ≤ gb264)); have GE264 := Aside0.mk ((by rw [hg]; exact (below_size (be1x10 HB.out GE263.out)) : w.heap.size ≤ gb264)); replace HB := Aside0.mk (below_step (be1x10 HB.out GE263.out) hb); have NB263_264 := Aside0.mk ((by rw [hg]; exact Nat.ne_of_lt (blk_lt (g := gb263) (o := .cells #[.int .i64 a0_0, .int .i64 a0_1, .int .i64 a0_2, .slice A0_3 l0_3.length c0_3, .slice A0_4 l0_4.length c0_4, .slice A0_5 l0_5.length c0_5] 26 (0, 0)) (rBx10 BK263.out)) : gb263 ≠ gb264)); have NB264_263 := Aside0.mk ((by rw [hg]; exact Nat.ne_of_gt (blk_lt (g := gb263) (o := .cells #[.int .i64 a0_0, .int .i64 a0_1, .int .i64 a0_2, .slice A0_3 l0_3.length c0_3, .slice A0_4 l0_4.length c0_4, .slice A0_5 l0_5.length c0_5] 26 (0, 0)) (rBx10 BK263.out)) : gb264 ≠ gb263)); replace BK263 := Aside0.mk (blk_below (g := gb263) (o := .cells #[.int .i64 a0_0, .int .i64 a0_1, .int .i64 a0_2, .slice A0_3 l0_3.length c0_3, .slice A0_4 l0_4.length c0_4, .slice A0_5 l0_5.length c0_5] 26 (0, 0)) (rBx10 BK263.out) hb); clear hb hbox hg; have hnb9 := NB263_264.out; have hnc9 := NB264_263.out; obtain ⟨hcz10_0, hcz10_1, hcz10_2, hcz10_3, hcz10_4, hcz10_5, hfz10_0, hfz10_1, hfz10_2, hfz10_3, hfz10_4, hfz10_5⟩ := cf6x10 BK263.out) | ((with_reducible refine gate_callee (f := 15) rfl ?_); refine goesL_ (some 18) rfl rfl Try.func15 (by kernel_rfl) rfl #[.agg #[.int .i64 a0_0, .int .i64 a0_1, .int .i64 a0_2, .slice A0_3 l0_3.length c0_3, .slice A0_4 l0_4.length c0_4, .slice A0_5 l0_5.length c0_5], .int .i64 1048576] rfl mpx10 ?_; (with_reducible refine (laws_szModel.calls a0_0 a0_1 a0_2 _ _ l0_3 _ _ l0_4 _ _ l0_5 1048576 t265 _ ?side1 ?side2 ?side3 ?side4 ?side5 ?side6 A5.out).mono ?_); (case side1 => exact rCx10 (Kd.C_below HR0_3.out HB.out)); (case side2 => exact HC0_3.out); (case side3 => exact rCx10 (Kd.C_below HR0_4.out HB.out)); (case side4 => exact HC0_4.out); (case side5 => exact rCx10 (Kd.C_below HR0_5.out HB.out)); (case side6 => exact HC0_5.out); rintro e w11 ⟨rfl, hb⟩; refine ⟨_, rfl, ?_⟩; replace BK263 := Aside0.mk (blk_below (g := gb263) (o := .cells #[.int .i64 a0_0, .int .i64 a0_1, .int .i64 a0_2, .slice A0_3 l0_3.length c0_3, .slice A0_4 l0_4.length c0_4, .slice A0_5 l0_5.length c0_5] 26 (0, 0)) (rBx10 BK263.out) hb); replace BK264 := Aside0.mk (blk_below (g := gb264) (o := .cells #[.slice A1_0 l1_0.length c1_0, .slice A1_1 l1_1.length c1_1, .slice A1_2 l1_2.length c1_2, .int .i64 a1_3, .int .i64 a1_4, .int .i64 a1_5, .int .i64 a1_6, .int .i64 a1_7] 31 (0, 0)) (rBx10 BK264.out) hb); replace HB := Aside0.mk (below_step (be2x10 HB.out GE263.out GE264.out) hb); (try clear hb); (try clear hb2); (try clear hk); (try clear hi)))
  go_ret
  exact ⟨by first | rfl | (simp [errW_none, errW_some] <;> rfl) | (simp [*, errW_none, errW_some] <;> rfl), be2x10 HB.out GE263.out GE264.out⟩
 ·rw [if_neg c6] at H
  have c6b0 : decide (t265 < 0) = false := decide_eq_false c6
  clear c6
  replace H := Option.bind_eq_some_iff.mp H
  obtain ⟨t266, A120, H⟩ := H
  have A12 := Aside0.mk A120
  clear A120
  by_cases c13 : t266 < 0
  ·rw [if_pos c13] at H
   have c13b0 : decide (t266 < 0) = true := decide_eq_true c13
   clear c13
   obtain rfl := Option.some.inj H
   go_enter Try.func13, Try.ntmps13
   go_wp2_with (first | ((with_reducible refine gate_dst (N := 4) rfl ?_); refine box_event ?hg (N := 4) ?hd (cs := #[.int .i64 a0_0, .int .i64 a0_1, .int .i64 a0_2, .slice A0_3 l0_3.length c0_3, .slice A0_4 l0_4.length c0_4, .slice A0_5 l0_5.length c0_5]) (t := 26) ?hr ?_; (case hd => rfl); (case hg => rfl); (case hr => first | (go_simp; done) | (go_simp; rfl)); intro gb263 hg w14 hbox hb; have BK263 := Aside0.mk (hbox); have GW263 := Aside0.mk ((by rw [hg]; exact (below_size (be0x10 HB.out)) : w.heap.size ≤ gb263)); have GE263 := Aside0.mk ((by rw [hg]; exact (below_size (be0x10 HB.out)) : w.heap.size ≤ gb263)); replace HB := Aside0.mk (below_step (be0x10 HB.out) hb); clear hb hbox hg) | ((with_reducible refine gate_dst (N := 5) rfl ?_); refine box_event ?hg (N := 5) ?hd (cs := #[.slice A1_0 l1_0.length c1_0, .slice A1_1 l1_1.length c1_1, .slice A1_2 l1_2.length c1_2, .int .i64 a1_3, .int .i64 a1_4, .int .i64 a1_5, .int .i64 a1_6, .int .i64 a1_7]) (t := 31) ?hr ?_; (case hd => rfl); (case hg => rfl); (case hr => first | (go_simp; done) | (go_simp; rfl)); intro gb264 hg w15 hbox hb; have BK264 := Aside0.mk (hbox); have GW264 := Aside0.mk ((by rw [hg]; exact (below_size (be1x10 HB.out GE263.out)) : w.heap.size ≤ gb264)); have GE264 := Aside0.mk ((by rw [hg]; exact (below_size (be1x10 HB.out GE263.out)) : w.heap.size ≤ gb264)); replace HB := Aside0.mk (below_step (be1x10 HB.out GE263.out) hb); have NB263_264 := Aside0.mk ((by rw [hg]; exact Nat.ne_of_lt (blk_lt (g := gb263) (o := .cells #[.int .i64 a0_0, .int .i64 a0_1, .int .i64 a0_2, .slice A0_3 l0_3.length c0_3, .slice A0_4 l0_4.length c0_4, .slice A0_5 l0_5.length c0_5] 26 (0, 0)) (rBx10 BK263.out)) : gb263 ≠ gb264)); have NB264_263 := Aside0.mk ((by rw [hg]; exact Nat.ne_of_gt (blk_lt (g := gb263) (o := .cells #[.int .i64 a0_0, .int .i64 a0_1, .int .i64 a0_2, .slice A0_3 l0_3.length c0_3, .slice A0_4 l0_4.length c0_4, .slice A0_5 l0_5.length c0_5] 26 (0, 0)) (rBx10 BK263.out)) : gb264 ≠ gb263)); replace BK263 := Aside0.mk (blk_below (g := gb263) (o := .cells #[.int .i64 a0_0, .int .i64 a0_1, .int .i64 a0_2, .slice A0_3 l0_3.length c0_3, .slice A0_4 l0_4.length c0_4, .slice A0_5 l0_5.length c0_5] 26 (0, 0)) (rBx10 BK263.out) hb); clear hb hbox hg; have hnb16 := NB263_264.out; have hnc16 := NB264_263.out; obtain ⟨hcz17_0, hcz17_1, hcz17_2, hcz17_3, hcz17_4, hcz17_5, hfz17_0, hfz17_1, hfz17_2, hfz17_3, hfz17_4, hfz17_5⟩ := cf6x10 BK263.out) | ((with_reducible refine gate_callee (f := 15) rfl ?_); refine goesL_ (some 18) rfl rfl Try.func15 (by kernel_rfl) rfl #[.agg #[.int .i64 a0_0, .int .i64 a0_1, .int .i64 a0_2, .slice A0_3 l0_3.length c0_3, .slice A0_4 l0_4.length c0_4, .slice A0_5 l0_5.length c0_5], .int .i64 1048576] rfl mpx10 ?_; (with_reducible refine (laws_szModel.calls a0_0 a0_1 a0_2 _ _ l0_3 _ _ l0_4 _ _ l0_5 1048576 t265 _ ?side1 ?side2 ?side3 ?side4 ?side5 ?side6 A5.out).mono ?_); (case side1 => exact rCx10 (Kd.C_below HR0_3.out HB.out)); (case side2 => exact HC0_3.out); (case side3 => exact rCx10 (Kd.C_below HR0_4.out HB.out)); (case side4 => exact HC0_4.out); (case side5 => exact rCx10 (Kd.C_below HR0_5.out HB.out)); (case side6 => exact HC0_5.out); rintro e w18 ⟨rfl, hb⟩; refine ⟨_, rfl, ?_⟩; replace BK263 := Aside0.mk (blk_below (g := gb263) (o := .cells #[.int .i64 a0_0, .int .i64 a0_1, .int .i64 a0_2, .slice A0_3 l0_3.length c0_3, .slice A0_4 l0_4.length c0_4, .slice A0_5 l0_5.length c0_5] 26 (0, 0)) (rBx10 BK263.out) hb); replace BK264 := Aside0.mk (blk_below (g := gb264) (o := .cells #[.slice A1_0 l1_0.length c1_0, .slice A1_1 l1_1.length c1_1, .slice A1_2 l1_2.length c1_2, .int .i64 a1_3, .int .i64 a1_4, .int .i64 a1_5, .int .i64 a1_6, .int .i64 a1_7] 31 (0, 0)) (rBx10 BK264.out) hb); replace HB := Aside0.mk (below_step (be2x10 HB.out GE263.out GE264.out) hb); (try clear hb); (try clear hb2); (try clear hk); (try clear hi); obtain ⟨hcz19_0, hcz19_1, hcz19_2, hcz19_3, hcz19_4, hcz19_5, hcz19_6, hcz19_7, hfz19_0, hfz19_1, hfz19_2, hfz19_3, hfz19_4, hfz19_5, hfz19_6, hfz19_7⟩ := cf8x10 BK264.out) | ((with_reducible refine gate_callee (f := 16) rfl ?_); refine goesL_ (some 23) rfl rfl Try.func16 (by kernel_rfl) rfl #[.agg #[.slice A1_0 l1_0.length c1_0, .slice A1_1 l1_1.length c1_1, .slice A1_2 l1_2.length c1_2, .int .i64 a1_3, .int .i64 a1_4, .int .i64 a1_5, .int .i64 a1_6, .int .i64 a1_7], .int .i64 t265] rfl mpx10 ?_; (with_reducible refine (laws_szJob.calls k _ _ l1_0 _ _ l1_1 _ _ l1_2 a1_3 a1_4 a1_5 a1_6 a1_7 t265 t266 _ ?side1 ?side2 ?side3 ?side4 ?side5 ?side6 A12.out).mono ?_); (case side1 => exact rCx10 (Kd.C_below HR1_0.out HB.out)); (case side2 => exact HC1_0.out); (case side3 => exact rCx10 (Kd.C_below HR1_1.out HB.out)); (case side4 => exact HC1_1.out); (case side5 => exact rCx10 (Kd.C_below HR1_2.out HB.out)); (case side6 => exact HC1_2.out); rintro e w20 ⟨rfl, hb⟩; refine ⟨_, rfl, ?_⟩; replace BK263 := Aside0.mk (blk_below (g := gb263) (o := .cells #[.int .i64 a0_0, .int .i64 a0_1, .int .i64 a0_2, .slice A0_3 l0_3.length c0_3, .slice A0_4 l0_4.length c0_4, .slice A0_5 l0_5.length c0_5] 26 (0, 0)) (rBx10 BK263.out) hb); replace BK264 := Aside0.mk (blk_below (g := gb264) (o := .cells #[.slice A1_0 l1_0.length c1_0, .slice A1_1 l1_1.length c1_1, .slice A1_2 l1_2.length c1_2, .int .i64 a1_3, .int .i64 a1_4, .int .i64 a1_5, .int .i64 a1_6, .int .i64 a1_7] 31 (0, 0)) (rBx10 BK264.out) hb); replace HB := Aside0.mk (below_step (be2x10 HB.out GE263.out GE264.out) hb); (try clear hb); (try clear hb2); (try clear hk); (try clear hi)))
   go_ret
   exact ⟨by first | rfl | (simp [errW_none, errW_some] <;> rfl) | (simp [*, errW_none, errW_some] <;> rfl), be2x10 HB.out GE263.out GE264.out⟩
  ·rw [if_neg c13] at H
   have c13b0 : decide (t266 < 0) = false := decide_eq_false c13
   clear c13
   replace H := Option.bind_eq_some_iff.mp H
   obtain ⟨⟨t267, t268, t269, t270, t273, t276⟩, A210, H⟩ := H
   (try dsimp only at H)
   have A21 := Aside0.mk A210
   clear A210
   replace H := Option.bind_eq_some_iff.mp H
   obtain ⟨⟨t279, t282, t285, t288, t289, t290, t291, t292⟩, A220, H⟩ := H
   (try dsimp only at H)
   have A22 := Aside0.mk A220
   clear A220
   replace H := Option.bind_eq_some_iff.mp H
   obtain ⟨⟨t293, t294⟩, A230, H⟩ := H
   (try dsimp only at H)
   have A23 := Aside0.mk A230
   clear A230
   replace H := Option.bind_eq_some_iff.mp H
   obtain ⟨⟨t295, t296, t297, t298, t301, t304⟩, A240, H⟩ := H
   (try dsimp only at H)
   have A24 := Aside0.mk A240
   clear A240
   replace H := Option.bind_eq_some_iff.mp H
   obtain ⟨⟨t308, t311, t314, t317, t318, t319, t320, t321⟩, A250, H⟩ := H
   (try dsimp only at H)
   have A25 := Aside0.mk A250
   clear A250
   replace H := Option.bind_eq_some_iff.mp H
   obtain ⟨⟨t323, t324⟩, A260, H⟩ := H
   (try dsimp only at H)
   have A26 := Aside0.mk A260
   clear A260
   have HC27 := Aside0.mk H
   clear H
   go_enter Try.func13, Try.ntmps13
   try go_wp2_with (first | ((with_reducible refine gate_dst (N := 4) rfl ?_); refine box_event ?hg (N := 4) ?hd (cs := #[.int .i64 a0_0, .int .i64 a0_1, .int .i64 a0_2, .slice A0_3 l0_3.length c0_3, .slice A0_4 l0_4.length c0_4, .slice A0_5 l0_5.length c0_5]) (t := 26) ?hr ?_; (case hd => rfl); (case hg => rfl); (case hr => first | (go_simp; done) | (go_simp; rfl)); intro gb263 hg w28 hbox hb; have BK263 := Aside0.mk (hbox); have GW263 := Aside0.mk ((by rw [hg]; exact (below_size (be0x10 HB.out)) : w.heap.size ≤ gb263)); have GE263 := Aside0.mk ((by rw [hg]; exact (below_size (be0x10 HB.out)) : w.heap.size ≤ gb263)); replace HB := Aside0.mk (below_step (be0x10 HB.out) hb); clear hb hbox hg) | ((with_reducible refine gate_dst (N := 5) rfl ?_); refine box_event ?hg (N := 5) ?hd (cs := #[.slice A1_0 l1_0.length c1_0, .slice A1_1 l1_1.length c1_1, .slice A1_2 l1_2.length c1_2, .int .i64 a1_3, .int .i64 a1_4, .int .i64 a1_5, .int .i64 a1_6, .int .i64 a1_7]) (t := 31) ?hr ?_; (case hd => rfl); (case hg => rfl); (case hr => first | (go_simp; done) | (go_simp; rfl)); intro gb264 hg w29 hbox hb; have BK264 := Aside0.mk (hbox); have GW264 := Aside0.mk ((by rw [hg]; exact (below_size (be1x10 HB.out GE263.out)) : w.heap.size ≤ gb264)); have GE264 := Aside0.mk ((by rw [hg]; exact (below_size (be1x10 HB.out GE263.out)) : w.heap.size ≤ gb264)); replace HB := Aside0.mk (below_step (be1x10 HB.out GE263.out) hb); have NB263_264 := Aside0.mk ((by rw [hg]; exact Nat.ne_of_lt (blk_lt (g := gb263) (o := .cells #[.int .i64 a0_0, .int .i64 a0_1, .int .i64 a0_2, .slice A0_3 l0_3.length c0_3, .slice A0_4 l0_4.length c0_4, .slice A0_5 l0_5.length c0_5] 26 (0, 0)) (rBx10 BK263.out)) : gb263 ≠ gb264)); have NB264_263 := Aside0.mk ((by rw [hg]; exact Nat.ne_of_gt (blk_lt (g := gb263) (o := .cells #[.int .i64 a0_0, .int .i64 a0_1, .int .i64 a0_2, .slice A0_3 l0_3.length c0_3, .slice A0_4 l0_4.length c0_4, .slice A0_5 l0_5.length c0_5] 26 (0, 0)) (rBx10 BK263.out)) : gb264 ≠ gb263)); replace BK263 := Aside0.mk (blk_below (g := gb263) (o := .cells #[.int .i64 a0_0, .int .i64 a0_1, .int .i64 a0_2, .slice A0_3 l0_3.length c0_3, .slice A0_4 l0_4.length c0_4, .slice A0_5 l0_5.length c0_5] 26 (0, 0)) (rBx10 BK263.out) hb); clear hb hbox hg; have hnb30 := NB263_264.out; have hnc30 := NB264_263.out; obtain ⟨hcz31_0, hcz31_1, hcz31_2, hcz31_3, hcz31_4, hcz31_5, hfz31_0, hfz31_1, hfz31_2, hfz31_3, hfz31_4, hfz31_5⟩ := cf6x10 BK263.out) | ((with_reducible refine gate_callee (f := 15) rfl ?_); refine goesL_ (some 18) rfl rfl Try.func15 (by kernel_rfl) rfl #[.agg #[.int .i64 a0_0, .int .i64 a0_1, .int .i64 a0_2, .slice A0_3 l0_3.length c0_3, .slice A0_4 l0_4.length c0_4, .slice A0_5 l0_5.length c0_5], .int .i64 1048576] rfl mpx10 ?_; (with_reducible refine (laws_szModel.calls a0_0 a0_1 a0_2 _ _ l0_3 _ _ l0_4 _ _ l0_5 1048576 t265 _ ?side1 ?side2 ?side3 ?side4 ?side5 ?side6 A5.out).mono ?_); (case side1 => exact rCx10 (Kd.C_below HR0_3.out HB.out)); (case side2 => exact HC0_3.out); (case side3 => exact rCx10 (Kd.C_below HR0_4.out HB.out)); (case side4 => exact HC0_4.out); (case side5 => exact rCx10 (Kd.C_below HR0_5.out HB.out)); (case side6 => exact HC0_5.out); rintro e w32 ⟨rfl, hb⟩; refine ⟨_, rfl, ?_⟩; replace BK263 := Aside0.mk (blk_below (g := gb263) (o := .cells #[.int .i64 a0_0, .int .i64 a0_1, .int .i64 a0_2, .slice A0_3 l0_3.length c0_3, .slice A0_4 l0_4.length c0_4, .slice A0_5 l0_5.length c0_5] 26 (0, 0)) (rBx10 BK263.out) hb); replace BK264 := Aside0.mk (blk_below (g := gb264) (o := .cells #[.slice A1_0 l1_0.length c1_0, .slice A1_1 l1_1.length c1_1, .slice A1_2 l1_2.length c1_2, .int .i64 a1_3, .int .i64 a1_4, .int .i64 a1_5, .int .i64 a1_6, .int .i64 a1_7] 31 (0, 0)) (rBx10 BK264.out) hb); replace HB := Aside0.mk (below_step (be2x10 HB.out GE263.out GE264.out) hb); (try clear hb); (try clear hb2); (try clear hk); (try clear hi); obtain ⟨hcz33_0, hcz33_1, hcz33_2, hcz33_3, hcz33_4, hcz33_5, hcz33_6, hcz33_7, hfz33_0, hfz33_1, hfz33_2, hfz33_3, hfz33_4, hfz33_5, hfz33_6, hfz33_7⟩ := cf8x10 BK264.out) | ((with_reducible refine gate_callee (f := 16) rfl ?_); refine goesL_ (some 23) rfl rfl Try.func16 (by kernel_rfl) rfl #[.agg #[.slice A1_0 l1_0.length c1_0, .slice A1_1 l1_1.length c1_1, .slice A1_2 l1_2.length c1_2, .int .i64 a1_3, .int .i64 a1_4, .int .i64 a1_5, .int .i64 a1_6, .int .i64 a1_7], .int .i64 t265] rfl mpx10 ?_; (with_reducible refine (laws_szJob.calls k _ _ l1_0 _ _ l1_1 _ _ l1_2 a1_3 a1_4 a1_5 a1_6 a1_7 t265 t266 _ ?side1 ?side2 ?side3 ?side4 ?side5 ?side6 A12.out).mono ?_); (case side1 => exact rCx10 (Kd.C_below HR1_0.out HB.out)); (case side2 => exact HC1_0.out); (case side3 => exact rCx10 (Kd.C_below HR1_1.out HB.out)); (case side4 => exact HC1_1.out); (case side5 => exact rCx10 (Kd.C_below HR1_2.out HB.out)); (case side6 => exact HC1_2.out); rintro e w34 ⟨rfl, hb⟩; refine ⟨_, rfl, ?_⟩; replace BK263 := Aside0.mk (blk_below (g := gb263) (o := .cells #[.int .i64 a0_0, .int .i64 a0_1, .int .i64 a0_2, .slice A0_3 l0_3.length c0_3, .slice A0_4 l0_4.length c0_4, .slice A0_5 l0_5.length c0_5] 26 (0, 0)) (rBx10 BK263.out) hb); replace BK264 := Aside0.mk (blk_below (g := gb264) (o := .cells #[.slice A1_0 l1_0.length c1_0, .slice A1_1 l1_1.length c1_1, .slice A1_2 l1_2.length c1_2, .int .i64 a1_3, .int .i64 a1_4, .int .i64 a1_5, .int .i64 a1_6, .int .i64 a1_7] 31 (0, 0)) (rBx10 BK264.out) hb); replace HB := Aside0.mk (below_step (be2x10 HB.out GE263.out GE264.out) hb); (try clear hb); (try clear hb2); (try clear hk); (try clear hi)))
   have n0_ := Aside0.mk (blk_drew BK263.out)
   have n1_ := Aside0.mk (blk_drew BK264.out)
   have n2_ := Aside0.mk (below_drew1 HB.out)
   clear BK263
   clear BK264
   clear HB
   have BK263 := n0_
   have BK264 := n1_
   have HB := n2_
   clear n0_ n1_ n2_
   refine start_ (n := 12) (S := fun w' => w'.cell? ⟨gb263, 0, none⟩ = some (.int .i64 a0_0) ∧ w'.cell? ⟨gb263, 1, none⟩ = some (.int .i64 a0_1) ∧ w'.cell? ⟨gb263, 2, none⟩ = some (.int .i64 a0_2) ∧ w'.cell? ⟨gb263, 3, none⟩ = some (.slice A0_3 l0_3.length c0_3) ∧ w'.cell? ⟨gb263, 4, none⟩ = some (.slice A0_4 l0_4.length c0_4) ∧ w'.cell? ⟨gb263, 5, none⟩ = some (.slice A0_5 l0_5.length c0_5) ∧ w'.cell? ⟨gb264, 0, none⟩ = some (.slice A1_0 l1_0.length c1_0) ∧ w'.cell? ⟨gb264, 1, none⟩ = some (.slice A1_1 l1_1.length c1_1) ∧ w'.cell? ⟨gb264, 2, none⟩ = some (.slice A1_2 l1_2.length c1_2) ∧ w'.cell? ⟨gb264, 3, none⟩ = some (.int .i64 a1_3) ∧ w'.cell? ⟨gb264, 4, none⟩ = some (.int .i64 a1_4) ∧ w'.cell? ⟨gb264, 5, none⟩ = some (.int .i64 a1_5) ∧ w'.cell? ⟨gb264, 6, none⟩ = some (.int .i64 a1_6) ∧ w'.cell? ⟨gb264, 7, none⟩ = some (.int .i64 a1_7)) (ds := []) #[false, false, false, false, false, false, false, false, false, false, false, false] (by kernel_rfl) rfl rfl (ca6x10 BK263.out (cc8x10 BK264.out)) (fun hHeld => ?_); refine with_tabW laws_FnExactDestinationOf.tab8 laws_FnExactDestinationOf.bits8 (fun HT_ HW_ => ?_)
   generalize w34.drew = w35 at BK263 BK264 HB hHeld ⊢
   refine pure_ (i := 4) (N := some 31) (v := ?_) (a' := ?_) #[false, false, false, false, true, false, false, false, false, false, false, false] rfl rfl (any_of HT_.out (by kernel_rfl)) (fun _ _ _ h => h) (Or.inl ⟨by rfl, ?_⟩) ?_ ?_
   rotate_left
   ·intro w'
    go_simp
    with_reducible rfl
   rotate_left
   ·simp only [Act.put, List.setIfInBounds_toArray, List.set_cons_zero, List.set_cons_succ, i64_w, i32_w]
    rfl
   refine pure_ (i := 5) (N := some 32) (v := ?_) (a' := ?_) #[false, false, false, false, true, true, false, false, false, false, false, false] rfl rfl (any_of HT_.out (by kernel_rfl)) (fun _ _ _ h => h) (Or.inl ⟨by rfl, ?_⟩) ?_ ?_
   rotate_left
   ·intro w'
    go_simp
    with_reducible rfl
   rotate_left
   ·simp only [Act.put, List.setIfInBounds_toArray, List.set_cons_zero, List.set_cons_succ, i64_w, i32_w]
    rfl
   refine take_ (i := 0) (N := some 27) (v := ?_) (a' := ?_) #[true, false, false, false, true, true, false, false, false, false, false, false] rfl rfl (take_ofW HT_.out HW_.out (by kernel_rfl)) (fun _ _ _ h => h) (Or.inl ⟨by rfl, ?_⟩) hHeld ?_ ?_
   rotate_left
   ·rintro w' ⟨s0, s1, s2, s3, s4, s5, s6, s7, s8, s9, s10, s11, s12, s13⟩
    go_simp
    with_reducible rfl
   rotate_left
   ·simp only [Act.put, List.setIfInBounds_toArray, List.set_cons_zero, List.set_cons_succ, i64_w, i32_w]
    rfl
   refine take_ (i := 2) (N := some 29) (v := ?_) (a' := ?_) #[true, false, true, false, true, true, false, false, false, false, false, false] rfl rfl (take_ofW HT_.out HW_.out (by kernel_rfl)) (fun _ _ _ h => h) (Or.inl ⟨by rfl, ?_⟩) hHeld ?_ ?_
   rotate_left
   ·rintro w' ⟨s0, s1, s2, s3, s4, s5, s6, s7, s8, s9, s10, s11, s12, s13⟩
    go_simp
    with_reducible rfl
   rotate_left
   ·simp only [Act.put, List.setIfInBounds_toArray, List.set_cons_zero, List.set_cons_succ, i64_w, i32_w]
    rfl
   refine one_ (i := 1) (N := some 28) #[true, true, true, false, true, true, false, false, false, false, false, false] rfl rfl (one_of HT_.out (by kernel_rfl)) (by decide) (fun K hK => ?_)
   refine goes_ Try.func19 (by kernel_rfl) rfl #[.agg #[.int .i64 a0_0, .int .i64 a0_1, .int .i64 a0_2, .slice A0_3 l0_3.length c0_3, .slice A0_4 l0_4.length c0_4, .slice A0_5 l0_5.length c0_5]] (by rfl) rfl rfl mpx10 ?_
   with_reducible refine (laws_toModel.calls k a0_0 a0_1 a0_2 _ _ l0_3 _ _ l0_4 _ _ l0_5 t267 t268 t269 t270 t273 t276 _ ?side1 ?side2 ?side3 ?side4 ?side5 ?side6 A21.out).mono ?_
   (case side1 => exact rCx10 (Kd.C_below HR0_3.out HB.out))
   (case side2 => exact HC0_3.out)
   (case side3 => exact rCx10 (Kd.C_below HR0_4.out HB.out))
   (case side4 => exact HC0_4.out)
   (case side5 => exact rCx10 (Kd.C_below HR0_5.out HB.out))
   (case side6 => exact HC0_5.out)
   rintro e w36 ⟨v271, v274, v277, rfl, ho0, ho1, ho2, hb⟩
   refine ⟨_, rfl, ?_⟩
   have n0_ := Aside0.mk (Kd.R_lower ho0 (below_size (be2x10 HB.out GE263.out GE264.out)))
   have n1_ := Aside0.mk (Kd.R_lower ho1 (below_size (be2x10 HB.out GE263.out GE264.out)))
   have n2_ := Aside0.mk (Kd.R_lower ho2 (below_size (be2x10 HB.out GE263.out GE264.out)))
   have n3_ := Aside0.mk (blk_below (g := gb263) (o := .cells #[.int .i64 a0_0, .int .i64 a0_1, .int .i64 a0_2, .slice A0_3 l0_3.length c0_3, .slice A0_4 l0_4.length c0_4, .slice A0_5 l0_5.length c0_5] 26 (0, 0)) (rBx10 BK263.out) hb)
   have n4_ := Aside0.mk (blk_below (g := gb264) (o := .cells #[.slice A1_0 l1_0.length c1_0, .slice A1_1 l1_1.length c1_1, .slice A1_2 l1_2.length c1_2, .int .i64 a1_3, .int .i64 a1_4, .int .i64 a1_5, .int .i64 a1_6, .int .i64 a1_7] 31 (0, 0)) (rBx10 BK264.out) hb)
   have n5_ := Aside0.mk (below_step (be2x10 HB.out GE263.out GE264.out) hb)
   clear BK263
   clear BK264
   clear HB
   have HO272 := n0_
   have HO275 := n1_
   have HO278 := n2_
   have BK263 := n3_
   have BK264 := n4_
   have HB := n5_
   clear n0_ n1_ n2_ n3_ n4_ n5_
   (try clear hb)
   (try clear hb2)
   (try clear hk)
   (try clear hi)
   (try clear ho0)
   (try clear ho1)
   (try clear ho2)
   refine hK.out _ _ (ca6x10 BK263.out (cc8x10 BK264.out)) (fun hHeld => ?_)
   clear hK K
   refine norm_ (a' := ?_) ?_ ?_
   rotate_left
   ·show Act.put _ (some 28) _ = _
    simp only [Act.put, List.setIfInBounds_toArray, List.set_cons_zero, List.set_cons_succ, i64_w, i32_w]
    rfl
   refine one_ (i := 3) (N := some 30) #[true, true, true, true, true, true, false, false, false, false, false, false] rfl rfl (one_of HT_.out (by kernel_rfl)) (by decide) (fun K hK => ?_)
   refine goes_ Try.func20 (by kernel_rfl) rfl #[.agg #[.slice A1_0 l1_0.length c1_0, .slice A1_1 l1_1.length c1_1, .slice A1_2 l1_2.length c1_2, .int .i64 a1_3, .int .i64 a1_4, .int .i64 a1_5, .int .i64 a1_6, .int .i64 a1_7]] (by rfl) rfl rfl mpx10 ?_
   with_reducible refine (laws_toJob.calls k _ _ l1_0 _ _ l1_1 _ _ l1_2 a1_3 a1_4 a1_5 a1_6 a1_7 t279 t282 t285 t288 t289 t290 t291 t292 _ ?side1 ?side2 ?side3 ?side4 ?side5 ?side6 A22.out).mono ?_
   (case side1 => exact rCx10 (Kd.C_below HR1_0.out HB.out))
   (case side2 => exact HC1_0.out)
   (case side3 => exact rCx10 (Kd.C_below HR1_1.out HB.out))
   (case side4 => exact HC1_1.out)
   (case side5 => exact rCx10 (Kd.C_below HR1_2.out HB.out))
   (case side6 => exact HC1_2.out)
   rintro e w37 ⟨v280, v283, v286, rfl, ho0, ho1, ho2, hb⟩
   refine ⟨_, rfl, ?_⟩
   have n0_ := Aside0.mk (Kd.R_mono (Kd.R_told (Kd.R_told (Kd.R_old (rRx10 HO272.out) hb) (Kd.R_base ho1)) (Kd.R_base ho2)) (fun _ h_ => h_.1))
   have n1_ := Aside0.mk (Kd.R_mono (Kd.R_told (Kd.R_told (Kd.R_old (rRx10 HO275.out) hb) (Kd.R_base ho1)) (Kd.R_base ho2)) (fun _ h_ => h_.1))
   have n2_ := Aside0.mk (Kd.R_mono (Kd.R_told (Kd.R_told (Kd.R_old (rRx10 HO278.out) hb) (Kd.R_base ho1)) (Kd.R_base ho2)) (fun _ h_ => h_.1))
   have n3_ := Aside0.mk (Kd.S_lower (Kd.S_new' (Kd.S_new' (Kd.S_new' ho0 (Kd.R_lt (rRx10 HO272.out))) (Kd.R_lt (rRx10 HO275.out))) (Kd.R_lt (rRx10 HO278.out))) (below_size (be2x10 HB.out GE263.out GE264.out)))
   have n4_ := Aside0.mk (Kd.R_lower (Kd.R_new' (Kd.R_new' (Kd.R_new' ho1 (Kd.R_lt (rRx10 HO272.out))) (Kd.R_lt (rRx10 HO275.out))) (Kd.R_lt (rRx10 HO278.out))) (below_size (be2x10 HB.out GE263.out GE264.out)))
   have n5_ := Aside0.mk (Kd.R_lower (Kd.R_new' (Kd.R_new' (Kd.R_new' ho2 (Kd.R_lt (rRx10 HO272.out))) (Kd.R_lt (rRx10 HO275.out))) (Kd.R_lt (rRx10 HO278.out))) (below_size (be2x10 HB.out GE263.out GE264.out)))
   have n6_ := Aside0.mk (blk_below (g := gb263) (o := .cells #[.int .i64 a0_0, .int .i64 a0_1, .int .i64 a0_2, .slice A0_3 l0_3.length c0_3, .slice A0_4 l0_4.length c0_4, .slice A0_5 l0_5.length c0_5] 26 (0, 0)) (rBx10 BK263.out) hb)
   have n7_ := Aside0.mk (blk_below (g := gb264) (o := .cells #[.slice A1_0 l1_0.length c1_0, .slice A1_1 l1_1.length c1_1, .slice A1_2 l1_2.length c1_2, .int .i64 a1_3, .int .i64 a1_4, .int .i64 a1_5, .int .i64 a1_6, .int .i64 a1_7] 31 (0, 0)) (rBx10 BK264.out) hb)
   have n8_ := Aside0.mk (below_step (be2x10 HB.out GE263.out GE264.out) hb)
   clear HO272
   clear HO275
   clear HO278
   clear BK263
   clear BK264
   clear HB
   have HO272 := n0_
   have HO275 := n1_
   have HO278 := n2_
   have HO281 := n3_
   have HO284 := n4_
   have HO287 := n5_
   have BK263 := n6_
   have BK264 := n7_
   have HB := n8_
   clear n0_ n1_ n2_ n3_ n4_ n5_ n6_ n7_ n8_
   (try clear hb)
   (try clear hb2)
   (try clear hk)
   (try clear hi)
   (try clear ho0)
   (try clear ho1)
   (try clear ho2)
   obtain ⟨Ao38, co38, eo38⟩ := Kd.R_slice HO272.out
   (first | subst eo38 | (injection eo38 with f1_ f2_ f3_; have f4_ := f1_.symm; have f5_ := f3_.symm; clear f1_ f2_ f3_; subst f4_; subst f5_))
   obtain ⟨Ao39, co39, eo39⟩ := Kd.R_slice HO275.out
   (first | subst eo39 | (injection eo39 with f1_ f2_ f3_; have f4_ := f1_.symm; have f5_ := f3_.symm; clear f1_ f2_ f3_; subst f4_; subst f5_))
   obtain ⟨Ao40, co40, eo40⟩ := Kd.R_slice HO278.out
   (first | subst eo40 | (injection eo40 with f1_ f2_ f3_; have f4_ := f1_.symm; have f5_ := f3_.symm; clear f1_ f2_ f3_; subst f4_; subst f5_))
   obtain ⟨Ao41, co41, eo41⟩ := Kd.S_slice HO281.out
   (first | subst eo41 | (injection eo41 with f1_ f2_ f3_; have f4_ := f1_.symm; have f5_ := f3_.symm; clear f1_ f2_ f3_; subst f4_; subst f5_))
   obtain ⟨Ao42, co42, eo42⟩ := Kd.R_slice HO284.out
   (first | subst eo42 | (injection eo42 with f1_ f2_ f3_; have f4_ := f1_.symm; have f5_ := f3_.symm; clear f1_ f2_ f3_; subst f4_; subst f5_))
   obtain ⟨Ao43, co43, eo43⟩ := Kd.R_slice HO287.out
   (first | subst eo43 | (injection eo43 with f1_ f2_ f3_; have f4_ := f1_.symm; have f5_ := f3_.symm; clear f1_ f2_ f3_; subst f4_; subst f5_))
   refine hK.out _ _ (ca6x10 BK263.out (cc8x10 BK264.out)) (fun hHeld => ?_)
   clear hK K
   refine norm_ (a' := ?_) ?_ ?_
   rotate_left
   ·show Act.put _ (some 30) _ = _
    simp only [Act.put, List.setIfInBounds_toArray, List.set_cons_zero, List.set_cons_succ, i64_w, i32_w]
    rfl
   refine one_ (i := 6) (N := some 33) #[true, true, true, true, true, true, true, false, false, false, false, false] rfl rfl (one_of HT_.out (by kernel_rfl)) (by decide) (fun K hK => ?_)
   refine goes_ Try.func61 (by kernel_rfl) rfl #[.agg #[.int .i64 t267, .int .i64 t268, .int .i64 t269, .slice Ao38 t270.length co38, .slice Ao39 t273.length co39, .slice Ao40 t276.length co40], .agg #[.slice Ao41 t279.length co41, .slice Ao42 t282.length co42, .slice Ao43 t285.length co43, .int .i64 t288, .int .i64 t289, .int .i64 t290, .int .i64 t291, .int .i64 t292], .int .i64 a2, .int .i64 a3] (by rfl) rfl rfl mpx10 ?_
   with_reducible refine (spec_DestinationOf.calls k t267 t268 t269 _ _ t270 _ _ t273 _ _ t276 _ _ t279 _ _ t282 _ _ t285 t288 t289 t290 t291 t292 a2 a3 t293 t294 _ ?side1 ?side2 ?side3 ?side4 ?side5 ?side6 ?side7 ?side8 ?side9 ?side10 ?side11 ?side12 A23.out).mono ?_
   (case side1 => exact cRx10 HO272.out)
   (case side2 => exact (Kd.R_reads' HO272.out).2.1)
   (case side3 => exact cRx10 HO275.out)
   (case side4 => exact (Kd.R_reads' HO275.out).2.1)
   (case side5 => exact cRx10 HO278.out)
   (case side6 => exact (Kd.R_reads' HO278.out).2.1)
   (case side7 => repeat (first | exact (Kd.S_reads' HO281.out).2.2 | (with_reducible refine Kd.C_alloc ?_ _) | (with_reducible refine Kd.C_drewN ?_ _) | (with_reducible refine Kd.C_drew ?_)))
   (case side8 => exact (Kd.S_reads' HO281.out).2.1)
   (case side9 => exact cRx10 HO284.out)
   (case side10 => exact (Kd.R_reads' HO284.out).2.1)
   (case side11 => exact cRx10 HO287.out)
   (case side12 => exact (Kd.R_reads' HO287.out).2.1)
   rintro e w44 ⟨rfl, hb⟩
   refine ⟨_, rfl, ?_⟩
   have n0_ := Aside0.mk (Kd.R_below (rRx10 HO272.out) hb)
   have n1_ := Aside0.mk (Kd.R_below (rRx10 HO275.out) hb)
   have n2_ := Aside0.mk (Kd.R_below (rRx10 HO278.out) hb)
   have n3_ := Aside0.mk (Kd.S_below (rSx10 HO281.out) hb)
   have n4_ := Aside0.mk (Kd.R_below (rRx10 HO284.out) hb)
   have n5_ := Aside0.mk (Kd.R_below (rRx10 HO287.out) hb)
   have n6_ := Aside0.mk (blk_below (g := gb263) (o := .cells #[.int .i64 a0_0, .int .i64 a0_1, .int .i64 a0_2, .slice A0_3 l0_3.length c0_3, .slice A0_4 l0_4.length c0_4, .slice A0_5 l0_5.length c0_5] 26 (0, 0)) (rBx10 BK263.out) hb)
   have n7_ := Aside0.mk (blk_below (g := gb264) (o := .cells #[.slice A1_0 l1_0.length c1_0, .slice A1_1 l1_1.length c1_1, .slice A1_2 l1_2.length c1_2, .int .i64 a1_3, .int .i64 a1_4, .int .i64 a1_5, .int .i64 a1_6, .int .i64 a1_7] 31 (0, 0)) (rBx10 BK264.out) hb)
   have n8_ := Aside0.mk (below_step (be2x10 HB.out GE263.out GE264.out) hb)
   clear HO272
   clear HO275
   clear HO278
   clear HO281
   clear HO284
   clear HO287
   clear BK263
   clear BK264
   clear HB
   have HO272 := n0_
   have HO275 := n1_
   have HO278 := n2_
   have HO281 := n3_
   have HO284 := n4_
   have HO287 := n5_
   have BK263 := n6_
   have BK264 := n7_
   have HB := n8_
   clear n0_ n1_ n2_ n3_ n4_ n5_ n6_ n7_ n8_
   (try clear hb)
   (try clear hb2)
   (try clear hk)
   (try clear hi)
   refine hK.out _ _ (ca6x10 BK263.out (cc8x10 BK264.out)) (fun hHeld => ?_)
   clear hK K
   refine norm_ (a' := ?_) ?_ ?_
   rotate_left
   ·show Act.put _ (some 33) _ = _
    simp only [Act.put, List.setIfInBounds_toArray, List.set_cons_zero, List.set_cons_succ, i64_w, i32_w]
    rfl
   refine pure_ (i := 7) (N := some 26) (v := ?_) (a' := ?_) #[true, true, true, true, true, true, true, true, false, false, false, false] rfl rfl (any_of HT_.out (by kernel_rfl)) (fun _ _ _ h => h) (Or.inl ⟨by rfl, ?_⟩) ?_ ?_
   rotate_left
   ·intro w'
    go_simp
    with_reducible rfl
   rotate_left
   ·simp only [Act.put, List.setIfInBounds_toArray, List.set_cons_zero, List.set_cons_succ, i64_w, i32_w]
    rfl
   refine pure_ (i := 8) (N := some 34) (v := ?_) (a' := ?_) #[true, true, true, true, true, true, true, true, true, false, false, false] rfl rfl (any_of HT_.out (by kernel_rfl)) (fun _ _ _ h => h) (Or.inl ⟨by rfl, ?_⟩) ?_ ?_
   rotate_left
   ·intro w'
    go_simp
    with_reducible rfl
   rotate_left
   ·simp only [Act.put, List.setIfInBounds_toArray, List.set_cons_zero, List.set_cons_succ, i64_w, i32_w]
    rfl
   refine pure_ (i := 9) (N := some 35) (v := ?_) (a' := ?_) #[true, true, true, true, true, true, true, true, true, true, false, false] rfl rfl (any_of HT_.out (by kernel_rfl)) (fun _ _ _ h => h) (Or.inl ⟨by rfl, ?_⟩) ?_ ?_
   rotate_left
   ·intro w'
    go_simp
    with_reducible rfl
   rotate_left
   ·simp only [Act.put, List.setIfInBounds_toArray, List.set_cons_zero, List.set_cons_succ, i64_w, i32_w]
    rfl
   refine pure_ (i := 10) (N := some 10) (v := ?_) (a' := ?_) #[true, true, true, true, true, true, true, true, true, true, true, false] rfl rfl (any_of HT_.out (by kernel_rfl)) (fun _ _ _ h => h) (Or.inl ⟨by rfl, ?_⟩) ?_ ?_
   rotate_left
   ·intro w'
    go_simp
    with_reducible rfl
   rotate_left
   ·simp only [Act.put, List.setIfInBounds_toArray, List.set_cons_zero, List.set_cons_succ, i64_w, i32_w]
    rfl
   refine pure_ (i := 11) (N := some 11) (v := ?_) (a' := ?_) #[true, true, true, true, true, true, true, true, true, true, true, true] rfl rfl (any_of HT_.out (by kernel_rfl)) (fun _ _ _ h => h) (Or.inl ⟨by rfl, ?_⟩) ?_ ?_
   rotate_left
   ·intro w'
    go_simp
    with_reducible rfl
   rotate_left
   ·simp only [Act.put, List.setIfInBounds_toArray, List.set_cons_zero, List.set_cons_succ, i64_w, i32_w]
    rfl
   refine done_ (done_of HT_.out (by kernel_rfl)) ?_
   obtain ⟨hcz45_0, hcz45_1, hcz45_2, hcz45_3, hcz45_4, hcz45_5, hfz45_0, hfz45_1, hfz45_2, hfz45_3, hfz45_4, hfz45_5⟩ := cf6x10 BK263.out
   go_upto_region 12 with (first | ((with_reducible refine gate_callee (f := 19) rfl ?_); refine goesL_ (some 37) rfl rfl Try.func19 (by kernel_rfl) rfl #[.agg #[.int .i64 a0_0, .int .i64 a0_1, .int .i64 a0_2, .slice A0_3 l0_3.length c0_3, .slice A0_4 l0_4.length c0_4, .slice A0_5 l0_5.length c0_5]] rfl mpx10 ?_; (with_reducible refine (laws_toModel.calls k a0_0 a0_1 a0_2 _ _ l0_3 _ _ l0_4 _ _ l0_5 t295 t296 t297 t298 t301 t304 _ ?side1 ?side2 ?side3 ?side4 ?side5 ?side6 A24.out).mono ?_); (case side1 => exact rCx10 (Kd.C_below HR0_3.out HB.out)); (case side2 => exact HC0_3.out); (case side3 => exact rCx10 (Kd.C_below HR0_4.out HB.out)); (case side4 => exact HC0_4.out); (case side5 => exact rCx10 (Kd.C_below HR0_5.out HB.out)); (case side6 => exact HC0_5.out); rintro e w46 ⟨v299, v302, v305, rfl, ho0, ho1, ho2, hb⟩; refine ⟨_, rfl, ?_⟩; replace HO281 := Aside0.mk (Kd.S_mono (Kd.S_told (Kd.S_told (Kd.S_told (Kd.S_old (rSx10 HO281.out) hb) (Kd.R_base ho0)) (Kd.R_base ho1)) (Kd.R_base ho2)) (fun _ h_ => h_.1)); have HO300 := Aside0.mk (Kd.R_lower (Kd.R_new' (Kd.R_new' (Kd.R_new' (Kd.R_new' (Kd.R_new' ho0 (Kd.R_lt (rRx10 HO272.out))) (Kd.R_lt (rRx10 HO275.out))) (Kd.R_lt (rRx10 HO278.out))) (Kd.R_lt (rRx10 HO284.out))) (Kd.R_lt (rRx10 HO287.out))) (below_size (be2x10 HB.out GE263.out GE264.out))); have HO303 := Aside0.mk (Kd.R_lower (Kd.R_new' (Kd.R_new' (Kd.R_new' (Kd.R_new' (Kd.R_new' ho1 (Kd.R_lt (rRx10 HO272.out))) (Kd.R_lt (rRx10 HO275.out))) (Kd.R_lt (rRx10 HO278.out))) (Kd.R_lt (rRx10 HO284.out))) (Kd.R_lt (rRx10 HO287.out))) (below_size (be2x10 HB.out GE263.out GE264.out))); have HO306 := Aside0.mk (Kd.R_lower (Kd.R_new' (Kd.R_new' (Kd.R_new' (Kd.R_new' (Kd.R_new' ho2 (Kd.R_lt (rRx10 HO272.out))) (Kd.R_lt (rRx10 HO275.out))) (Kd.R_lt (rRx10 HO278.out))) (Kd.R_lt (rRx10 HO284.out))) (Kd.R_lt (rRx10 HO287.out))) (below_size (be2x10 HB.out GE263.out GE264.out))); replace HO272 := Aside0.mk (kp3x10 (rRx10 HO272.out) hb ho0 ho1 ho2); replace HO275 := Aside0.mk (kp3x10 (rRx10 HO275.out) hb ho0 ho1 ho2); replace HO278 := Aside0.mk (kp3x10 (rRx10 HO278.out) hb ho0 ho1 ho2); replace HO284 := Aside0.mk (kp3x10 (rRx10 HO284.out) hb ho0 ho1 ho2); replace HO287 := Aside0.mk (kp3x10 (rRx10 HO287.out) hb ho0 ho1 ho2); replace BK263 := Aside0.mk (blk_below (g := gb263) (o := .cells #[.int .i64 a0_0, .int .i64 a0_1, .int .i64 a0_2, .slice A0_3 l0_3.length c0_3, .slice A0_4 l0_4.length c0_4, .slice A0_5 l0_5.length c0_5] 26 (0, 0)) (rBx10 BK263.out) hb); replace BK264 := Aside0.mk (blk_below (g := gb264) (o := .cells #[.slice A1_0 l1_0.length c1_0, .slice A1_1 l1_1.length c1_1, .slice A1_2 l1_2.length c1_2, .int .i64 a1_3, .int .i64 a1_4, .int .i64 a1_5, .int .i64 a1_6, .int .i64 a1_7] 31 (0, 0)) (rBx10 BK264.out) hb); replace HB := Aside0.mk (below_step (be2x10 HB.out GE263.out GE264.out) hb); (try clear hb); (try clear hb2); (try clear hk); (try clear hi); (try clear ho0); (try clear ho1); (try clear ho2)) | ((with_reducible refine gate_dst (N := 12) rfl ?_); refine box_event ?hg (N := 12) ?hd (cs := #[.int .i64 0, .int .i64 0, .int .i64 0, .slice none 0 0, .slice none 0 0, .slice none 0 0]) (t := 41) ?hr ?_; (case hd => rfl); (case hg => rfl); (case hr => first | (go_simp; done) | (go_simp; rfl)); intro gb307 hg w47 hbox hb; replace HO272 := Aside0.mk (Kd.R_below (rRx10 HO272.out) hb); replace HO275 := Aside0.mk (Kd.R_below (rRx10 HO275.out) hb); replace HO278 := Aside0.mk (Kd.R_below (rRx10 HO278.out) hb); replace HO281 := Aside0.mk (Kd.S_below (rSx10 HO281.out) hb); replace HO284 := Aside0.mk (Kd.R_below (rRx10 HO284.out) hb); replace HO287 := Aside0.mk (Kd.R_below (rRx10 HO287.out) hb); replace HO300 := Aside0.mk (Kd.R_below (rRx10 HO300.out) hb); replace HO303 := Aside0.mk (Kd.R_below (rRx10 HO303.out) hb); replace HO306 := Aside0.mk (Kd.R_below (rRx10 HO306.out) hb); have BK307 := Aside0.mk (hbox); have GW307 := Aside0.mk ((by rw [hg]; exact (below_size (be2x10 HB.out GE263.out GE264.out)) : w.heap.size ≤ gb307)); have GE307 := Aside0.mk ((by rw [hg]; exact (below_size (be2x10 HB.out GE263.out GE264.out)) : w.heap.size ≤ gb307)); replace HB := Aside0.mk (below_step (be2x10 HB.out GE263.out GE264.out) hb); have NB263_307 := Aside0.mk ((by rw [hg]; exact Nat.ne_of_lt (blk_lt (g := gb263) (o := .cells #[.int .i64 a0_0, .int .i64 a0_1, .int .i64 a0_2, .slice A0_3 l0_3.length c0_3, .slice A0_4 l0_4.length c0_4, .slice A0_5 l0_5.length c0_5] 26 (0, 0)) (rBx10 BK263.out)) : gb263 ≠ gb307)); have NB307_263 := Aside0.mk ((by rw [hg]; exact Nat.ne_of_gt (blk_lt (g := gb263) (o := .cells #[.int .i64 a0_0, .int .i64 a0_1, .int .i64 a0_2, .slice A0_3 l0_3.length c0_3, .slice A0_4 l0_4.length c0_4, .slice A0_5 l0_5.length c0_5] 26 (0, 0)) (rBx10 BK263.out)) : gb307 ≠ gb263)); replace BK263 := Aside0.mk (blk_below (g := gb263) (o := .cells #[.int .i64 a0_0, .int .i64 a0_1, .int .i64 a0_2, .slice A0_3 l0_3.length c0_3, .slice A0_4 l0_4.length c0_4, .slice A0_5 l0_5.length c0_5] 26 (0, 0)) (rBx10 BK263.out) hb); have NB264_307 := Aside0.mk ((by rw [hg]; exact Nat.ne_of_lt (blk_lt (g := gb264) (o := .cells #[.slice A1_0 l1_0.length c1_0, .slice A1_1 l1_1.length c1_1, .slice A1_2 l1_2.length c1_2, .int .i64 a1_3, .int .i64 a1_4, .int .i64 a1_5, .int .i64 a1_6, .int .i64 a1_7] 31 (0, 0)) (rBx10 BK264.out)) : gb264 ≠ gb307)); have NB307_264 := Aside0.mk ((by rw [hg]; exact Nat.ne_of_gt (blk_lt (g := gb264) (o := .cells #[.slice A1_0 l1_0.length c1_0, .slice A1_1 l1_1.length c1_1, .slice A1_2 l1_2.length c1_2, .int .i64 a1_3, .int .i64 a1_4, .int .i64 a1_5, .int .i64 a1_6, .int .i64 a1_7] 31 (0, 0)) (rBx10 BK264.out)) : gb307 ≠ gb264)); replace BK264 := Aside0.mk (blk_below (g := gb264) (o := .cells #[.slice A1_0 l1_0.length c1_0, .slice A1_1 l1_1.length c1_1, .slice A1_2 l1_2.length c1_2, .int .i64 a1_3, .int .i64 a1_4, .int .i64 a1_5, .int .i64 a1_6, .int .i64 a1_7] 31 (0, 0)) (rBx10 BK264.out) hb); clear hb hbox hg; have hnb48 := NB307_263.out; have hnc48 := NB263_307.out; have hnb49 := NB307_264.out; have hnc49 := NB264_307.out; obtain ⟨hcz50_0, hcz50_1, hcz50_2, hcz50_3, hcz50_4, hcz50_5, hfz50_0, hfz50_1, hfz50_2, hfz50_3, hfz50_4, hfz50_5⟩ := cf6x10 BK307.out; obtain ⟨Ao51, co51, eo51⟩ := Kd.R_slice HO300.out; subst eo51; obtain ⟨Ao52, co52, eo52⟩ := Kd.R_slice HO303.out; subst eo52; obtain ⟨Ao53, co53, eo53⟩ := Kd.R_slice HO306.out; subst eo53; obtain ⟨hcz54_0, hcz54_1, hcz54_2, hcz54_3, hcz54_4, hcz54_5, hcz54_6, hcz54_7, hfz54_0, hfz54_1, hfz54_2, hfz54_3, hfz54_4, hfz54_5, hfz54_6, hfz54_7⟩ := cf8x10 BK264.out) | ((with_reducible refine gate_callee (f := 20) rfl ?_); refine goesL_ (some 39) rfl rfl Try.func20 (by kernel_rfl) rfl #[.agg #[.slice A1_0 l1_0.length c1_0, .slice A1_1 l1_1.length c1_1, .slice A1_2 l1_2.length c1_2, .int .i64 a1_3, .int .i64 a1_4, .int .i64 a1_5, .int .i64 a1_6, .int .i64 a1_7]] rfl mpx10 ?_; (with_reducible refine (laws_toJob.calls k _ _ l1_0 _ _ l1_1 _ _ l1_2 a1_3 a1_4 a1_5 a1_6 a1_7 t308 t311 t314 t317 t318 t319 t320 t321 _ ?side1 ?side2 ?side3 ?side4 ?side5 ?side6 A25.out).mono ?_); (case side1 => exact Kd.C_below HR1_0.out (be3x10 HB.out GE263.out GE264.out GE307.out)); (case side2 => exact HC1_0.out); (case side3 => exact Kd.C_below HR1_1.out (be3x10 HB.out GE263.out GE264.out GE307.out)); (case side4 => exact HC1_1.out); (case side5 => exact Kd.C_below HR1_2.out (be3x10 HB.out GE263.out GE264.out GE307.out)); (case side6 => exact HC1_2.out); rintro e w55 ⟨v309, v312, v315, rfl, ho0, ho1, ho2, hb⟩; refine ⟨_, rfl, ?_⟩; have HO310 := Aside0.mk (Kd.S_lower (Kd.S_new' (Kd.S_new' (Kd.S_new' (Kd.S_new' (Kd.S_new' (Kd.S_new' (Kd.S_new' (Kd.S_new' (Kd.S_new' ho0 (Kd.R_lt (sR6x10 HO272.out BK307.out))) (Kd.R_lt (sR6x10 HO275.out BK307.out))) (Kd.R_lt (sR6x10 HO278.out BK307.out))) (Kd.S_lt (by (with_reducible repeat (first | apply Kd.S_alloc | apply Kd.S_drewN | apply Kd.S_drew)); exact (Kd.S_mono (Kd.S_far (p := ⟨gb307, 5, none⟩) (Kd.S_far (p := ⟨gb307, 4, none⟩) (Kd.S_far (p := ⟨gb307, 3, none⟩) (Kd.S_far (p := ⟨gb307, 2, none⟩) (Kd.S_far (p := ⟨gb307, 1, none⟩) (Kd.S_far (p := ⟨gb307, 0, none⟩) (Kd.S_types HO281.out BK307.out (by decide)) (fun _ hk => hk.2) (.int .i64 t295)) (fun _ hk => hk.2) (.int .i64 t296)) (fun _ hk => hk.2) (.int .i64 t297)) (fun _ hk => hk.2) (.slice Ao51 t298.length co51)) (fun _ hk => hk.2) (.slice Ao52 t301.length co52)) (fun _ hk => hk.2) (.slice Ao53 t304.length co53)) (fun _ h_ => h_.1))))) (Kd.R_lt (sR6x10 HO284.out BK307.out))) (Kd.R_lt (sR6x10 HO287.out BK307.out))) (Kd.R_lt (sR6x10 HO300.out BK307.out))) (Kd.R_lt (sR6x10 HO303.out BK307.out))) (Kd.R_lt (sR6x10 HO306.out BK307.out))) (below_size (be3x10 HB.out GE263.out GE264.out GE307.out))); replace HO281 := Aside0.mk (Kd.S_mono (Kd.S_told (Kd.S_told (Kd.S_told (Kd.S_old (by (with_reducible repeat (first | apply Kd.S_alloc | apply Kd.S_drewN | apply Kd.S_drew)); exact (Kd.S_mono (Kd.S_far (p := ⟨gb307, 5, none⟩) (Kd.S_far (p := ⟨gb307, 4, none⟩) (Kd.S_far (p := ⟨gb307, 3, none⟩) (Kd.S_far (p := ⟨gb307, 2, none⟩) (Kd.S_far (p := ⟨gb307, 1, none⟩) (Kd.S_far (p := ⟨gb307, 0, none⟩) (Kd.S_types HO281.out BK307.out (by decide)) (fun _ hk => hk.2) (.int .i64 t295)) (fun _ hk => hk.2) (.int .i64 t296)) (fun _ hk => hk.2) (.int .i64 t297)) (fun _ hk => hk.2) (.slice Ao51 t298.length co51)) (fun _ hk => hk.2) (.slice Ao52 t301.length co52)) (fun _ hk => hk.2) (.slice Ao53 t304.length co53)) (fun _ h_ => h_.1))) hb) (Kd.S_base ho0)) (Kd.R_base ho1)) (Kd.R_base ho2)) (fun _ h_ => h_.1)); have HO313 := Aside0.mk (Kd.R_lower (Kd.R_new' (Kd.R_new' (Kd.R_new' (Kd.R_new' (Kd.R_new' (Kd.R_new' (Kd.R_new' (Kd.R_new' ho1 (Kd.R_lt (sR6x10 HO272.out BK307.out))) (Kd.R_lt (sR6x10 HO275.out BK307.out))) (Kd.R_lt (sR6x10 HO278.out BK307.out))) (Kd.R_lt (sR6x10 HO284.out BK307.out))) (Kd.R_lt (sR6x10 HO287.out BK307.out))) (Kd.R_lt (sR6x10 HO300.out BK307.out))) (Kd.R_lt (sR6x10 HO303.out BK307.out))) (Kd.R_lt (sR6x10 HO306.out BK307.out))) (below_size (be3x10 HB.out GE263.out GE264.out GE307.out))); have HO316 := Aside0.mk (Kd.R_lower (Kd.R_new' (Kd.R_new' (Kd.R_new' (Kd.R_new' (Kd.R_new' (Kd.R_new' (Kd.R_new' (Kd.R_new' ho2 (Kd.R_lt (sR6x10 HO272.out BK307.out))) (Kd.R_lt (sR6x10 HO275.out BK307.out))) (Kd.R_lt (sR6x10 HO278.out BK307.out))) (Kd.R_lt (sR6x10 HO284.out BK307.out))) (Kd.R_lt (sR6x10 HO287.out BK307.out))) (Kd.R_lt (sR6x10 HO300.out BK307.out))) (Kd.R_lt (sR6x10 HO303.out BK307.out))) (Kd.R_lt (sR6x10 HO306.out BK307.out))) (below_size (be3x10 HB.out GE263.out GE264.out GE307.out))); replace HO272 := Aside0.mk (Kd.R_mono (Kd.R_told (Kd.R_told (Kd.R_old (sR6x10 HO272.out BK307.out) hb) (Kd.R_base ho1)) (Kd.R_base ho2)) (fun _ h_ => h_.1)); replace HO275 := Aside0.mk (Kd.R_mono (Kd.R_told (Kd.R_told (Kd.R_old (sR6x10 HO275.out BK307.out) hb) (Kd.R_base ho1)) (Kd.R_base ho2)) (fun _ h_ => h_.1)); replace HO278 := Aside0.mk (Kd.R_mono (Kd.R_told (Kd.R_told (Kd.R_old (sR6x10 HO278.out BK307.out) hb) (Kd.R_base ho1)) (Kd.R_base ho2)) (fun _ h_ => h_.1)); replace HO284 := Aside0.mk (Kd.R_mono (Kd.R_told (Kd.R_told (Kd.R_old (sR6x10 HO284.out BK307.out) hb) (Kd.R_base ho1)) (Kd.R_base ho2)) (fun _ h_ => h_.1)); replace HO287 := Aside0.mk (Kd.R_mono (Kd.R_told (Kd.R_told (Kd.R_old (sR6x10 HO287.out BK307.out) hb) (Kd.R_base ho1)) (Kd.R_base ho2)) (fun _ h_ => h_.1)); replace HO300 := Aside0.mk (Kd.R_mono (Kd.R_told (Kd.R_told (Kd.R_old (sR6x10 HO300.out BK307.out) hb) (Kd.R_base ho1)) (Kd.R_base ho2)) (fun _ h_ => h_.1)); replace HO303 := Aside0.mk (Kd.R_mono (Kd.R_told (Kd.R_told (Kd.R_old (sR6x10 HO303.out BK307.out) hb) (Kd.R_base ho1)) (Kd.R_base ho2)) (fun _ h_ => h_.1)); replace HO306 := Aside0.mk (Kd.R_mono (Kd.R_told (Kd.R_told (Kd.R_old (sR6x10 HO306.out BK307.out) hb) (Kd.R_base ho1)) (Kd.R_base ho2)) (fun _ h_ => h_.1)); replace BK263 := Aside0.mk (blk_below (g := gb263) (o := .cells #[.int .i64 a0_0, .int .i64 a0_1, .int .i64 a0_2, .slice A0_3 l0_3.length c0_3, .slice A0_4 l0_4.length c0_4, .slice A0_5 l0_5.length c0_5] 26 (0, 0)) (bb6x10 BK263.out NB263_307.out) hb); replace BK264 := Aside0.mk (blk_below (g := gb264) (o := .cells #[.slice A1_0 l1_0.length c1_0, .slice A1_1 l1_1.length c1_1, .slice A1_2 l1_2.length c1_2, .int .i64 a1_3, .int .i64 a1_4, .int .i64 a1_5, .int .i64 a1_6, .int .i64 a1_7] 31 (0, 0)) (bb6x10 BK264.out NB264_307.out) hb); replace BK307 := Aside0.mk (blk_below (g := gb307) (o := .cells #[.int .i64 t295, .int .i64 t296, .int .i64 t297, .slice Ao51 t298.length co51, .slice Ao52 t301.length co52, .slice Ao53 t304.length co53] 41 (0, 0)) (by (with_reducible repeat (first | refine blk_drewN ?_ _ | refine blk_drew ?_ | refine blk_alloc ?_ _)); refine blk_put (cs := #[.int .i64 t295, .int .i64 t296, .int .i64 t297, .slice Ao51 t298.length co51, .slice Ao52 t301.length co52, .slice none 0 0]) ?_ 5 _ rfl; (with_reducible repeat (first | refine blk_drewN ?_ _ | refine blk_drew ?_ | refine blk_alloc ?_ _)); refine blk_put (cs := #[.int .i64 t295, .int .i64 t296, .int .i64 t297, .slice Ao51 t298.length co51, .slice none 0 0, .slice none 0 0]) ?_ 4 _ rfl; (with_reducible repeat (first | refine blk_drewN ?_ _ | refine blk_drew ?_ | refine blk_alloc ?_ _)); refine blk_put (cs := #[.int .i64 t295, .int .i64 t296, .int .i64 t297, .slice none 0 0, .slice none 0 0, .slice none 0 0]) ?_ 3 _ rfl; (with_reducible repeat (first | refine blk_drewN ?_ _ | refine blk_drew ?_ | refine blk_alloc ?_ _)); refine blk_put (cs := #[.int .i64 t295, .int .i64 t296, .int .i64 0, .slice none 0 0, .slice none 0 0, .slice none 0 0]) ?_ 2 _ rfl; (with_reducible repeat (first | refine blk_drewN ?_ _ | refine blk_drew ?_ | refine blk_alloc ?_ _)); refine blk_put (cs := #[.int .i64 t295, .int .i64 0, .int .i64 0, .slice none 0 0, .slice none 0 0, .slice none 0 0]) ?_ 1 _ rfl; (with_reducible repeat (first | refine blk_drewN ?_ _ | refine blk_drew ?_ | refine blk_alloc ?_ _)); refine blk_put (cs := #[.int .i64 0, .int .i64 0, .int .i64 0, .slice none 0 0, .slice none 0 0, .slice none 0 0]) ?_ 0 _ rfl; (with_reducible repeat (first | refine blk_drewN ?_ _ | refine blk_drew ?_ | refine blk_alloc ?_ _)); exact BK307.out) hb); replace HB := Aside0.mk (below_step (be3x10 HB.out GE263.out GE264.out GE307.out) hb); (try clear hb); (try clear hb2); (try clear hk); (try clear hi); (try clear ho0); (try clear ho1); (try clear ho2)) | ((with_reducible refine gate_dst (N := 13) rfl ?_); refine box_event ?hg (N := 13) ?hd (cs := #[.slice none 0 0, .slice none 0 0, .slice none 0 0, .int .i64 0, .int .i64 0, .int .i64 0, .int .i64 0, .int .i64 0]) (t := 45) ?hr ?_; (case hd => rfl); (case hg => rfl); (case hr => first | (go_simp; done) | (go_simp; rfl)); intro gb322 hg w56 hbox hb; replace HO272 := Aside0.mk (Kd.R_below (rRx10 HO272.out) hb); replace HO275 := Aside0.mk (Kd.R_below (rRx10 HO275.out) hb); replace HO278 := Aside0.mk (Kd.R_below (rRx10 HO278.out) hb); replace HO281 := Aside0.mk (Kd.S_below (rSx10 HO281.out) hb); replace HO284 := Aside0.mk (Kd.R_below (rRx10 HO284.out) hb); replace HO287 := Aside0.mk (Kd.R_below (rRx10 HO287.out) hb); replace HO300 := Aside0.mk (Kd.R_below (rRx10 HO300.out) hb); replace HO303 := Aside0.mk (Kd.R_below (rRx10 HO303.out) hb); replace HO306 := Aside0.mk (Kd.R_below (rRx10 HO306.out) hb); replace HO310 := Aside0.mk (Kd.S_below (rSx10 HO310.out) hb); replace HO313 := Aside0.mk (Kd.R_below (rRx10 HO313.out) hb); replace HO316 := Aside0.mk (Kd.R_below (rRx10 HO316.out) hb); have BK322 := Aside0.mk (hbox); have GW322 := Aside0.mk ((by rw [hg]; exact (below_size (be3x10 HB.out GE263.out GE264.out GE307.out)) : w.heap.size ≤ gb322)); have GE322 := Aside0.mk ((by rw [hg]; exact (below_size (be3x10 HB.out GE263.out GE264.out GE307.out)) : w.heap.size ≤ gb322)); replace HB := Aside0.mk (below_step (be3x10 HB.out GE263.out GE264.out GE307.out) hb); have NB263_322 := Aside0.mk ((by rw [hg]; exact Nat.ne_of_lt (blk_lt (g := gb263) (o := .cells #[.int .i64 a0_0, .int .i64 a0_1, .int .i64 a0_2, .slice A0_3 l0_3.length c0_3, .slice A0_4 l0_4.length c0_4, .slice A0_5 l0_5.length c0_5] 26 (0, 0)) (rBx10 BK263.out)) : gb263 ≠ gb322)); have NB322_263 := Aside0.mk ((by rw [hg]; exact Nat.ne_of_gt (blk_lt (g := gb263) (o := .cells #[.int .i64 a0_0, .int .i64 a0_1, .int .i64 a0_2, .slice A0_3 l0_3.length c0_3, .slice A0_4 l0_4.length c0_4, .slice A0_5 l0_5.length c0_5] 26 (0, 0)) (rBx10 BK263.out)) : gb322 ≠ gb263)); replace BK263 := Aside0.mk (blk_below (g := gb263) (o := .cells #[.int .i64 a0_0, .int .i64 a0_1, .int .i64 a0_2, .slice A0_3 l0_3.length c0_3, .slice A0_4 l0_4.length c0_4, .slice A0_5 l0_5.length c0_5] 26 (0, 0)) (rBx10 BK263.out) hb); have NB264_322 := Aside0.mk ((by rw [hg]; exact Nat.ne_of_lt (blk_lt (g := gb264) (o := .cells #[.slice A1_0 l1_0.length c1_0, .slice A1_1 l1_1.length c1_1, .slice A1_2 l1_2.length c1_2, .int .i64 a1_3, .int .i64 a1_4, .int .i64 a1_5, .int .i64 a1_6, .int .i64 a1_7] 31 (0, 0)) (rBx10 BK264.out)) : gb264 ≠ gb322)); have NB322_264 := Aside0.mk ((by rw [hg]; exact Nat.ne_of_gt (blk_lt (g := gb264) (o := .cells #[.slice A1_0 l1_0.length c1_0, .slice A1_1 l1_1.length c1_1, .slice A1_2 l1_2.length c1_2, .int .i64 a1_3, .int .i64 a1_4, .int .i64 a1_5, .int .i64 a1_6, .int .i64 a1_7] 31 (0, 0)) (rBx10 BK264.out)) : gb322 ≠ gb264)); replace BK264 := Aside0.mk (blk_below (g := gb264) (o := .cells #[.slice A1_0 l1_0.length c1_0, .slice A1_1 l1_1.length c1_1, .slice A1_2 l1_2.length c1_2, .int .i64 a1_3, .int .i64 a1_4, .int .i64 a1_5, .int .i64 a1_6, .int .i64 a1_7] 31 (0, 0)) (rBx10 BK264.out) hb); have NB307_322 := Aside0.mk ((by rw [hg]; exact Nat.ne_of_lt (blk_lt (g := gb307) (o := .cells #[.int .i64 t295, .int .i64 t296, .int .i64 t297, .slice Ao51 t298.length co51, .slice Ao52 t301.length co52, .slice Ao53 t304.length co53] 41 (0, 0)) (rBx10 BK307.out)) : gb307 ≠ gb322)); have NB322_307 := Aside0.mk ((by rw [hg]; exact Nat.ne_of_gt (blk_lt (g := gb307) (o := .cells #[.int .i64 t295, .int .i64 t296, .int .i64 t297, .slice Ao51 t298.length co51, .slice Ao52 t301.length co52, .slice Ao53 t304.length co53] 41 (0, 0)) (rBx10 BK307.out)) : gb322 ≠ gb307)); replace BK307 := Aside0.mk (blk_below (g := gb307) (o := .cells #[.int .i64 t295, .int .i64 t296, .int .i64 t297, .slice Ao51 t298.length co51, .slice Ao52 t301.length co52, .slice Ao53 t304.length co53] 41 (0, 0)) (rBx10 BK307.out) hb); clear hb hbox hg; obtain ⟨Ao57, co57, eo57⟩ := Kd.S_slice HO310.out; subst eo57; have hnb58 := NB322_263.out; have hnc58 := NB263_322.out; have hnb59 := NB322_264.out; have hnc59 := NB264_322.out; have hnb60 := NB322_307.out; have hnc60 := NB307_322.out; obtain ⟨hcz61_0, hcz61_1, hcz61_2, hcz61_3, hcz61_4, hcz61_5, hcz61_6, hcz61_7, hfz61_0, hfz61_1, hfz61_2, hfz61_3, hfz61_4, hfz61_5, hfz61_6, hfz61_7⟩ := cf8x10 BK322.out; obtain ⟨Ao62, co62, eo62⟩ := Kd.R_slice HO313.out; subst eo62; obtain ⟨Ao63, co63, eo63⟩ := Kd.R_slice HO316.out; subst eo63; obtain ⟨hcz64_0, hcz64_1, hcz64_2, hcz64_3, hcz64_4, hcz64_5, hfz64_0, hfz64_1, hfz64_2, hfz64_3, hfz64_4, hfz64_5⟩ := cf6x10 BK307.out) | ((with_reducible refine gate_callee (f := 62) rfl ?_); refine goesL_ (some 45) rfl rfl Try.func62 (by kernel_rfl) rfl #[.agg #[.int .i64 t295, .int .i64 t296, .int .i64 t297, .slice Ao51 t298.length co51, .slice Ao52 t301.length co52, .slice Ao53 t304.length co53], .agg #[.slice Ao57 t308.length co57, .slice Ao62 t311.length co62, .slice Ao63 t314.length co63, .int .i64 t317, .int .i64 t318, .int .i64 t319, .int .i64 t320, .int .i64 t321], .int .i64 a2, .int .i64 a3] rfl mpx10 ?_; (with_reducible refine (impl_DestinationOf.calls k t295 t296 t297 _ _ t298 _ _ t301 _ _ t304 _ _ t308 _ _ t311 _ _ t314 t317 t318 t319 t320 t321 a2 a3 t323 t324 _ ?side1 ?side2 ?side3 ?side4 ?side5 ?side6 ?side7 ?side8 ?side9 ?side10 ?side11 ?side12 A26.out).mono ?_); (case side1 => exact cS8x10 HO300.out BK322.out); (case side2 => exact (Kd.R_reads' HO300.out).2.1); (case side3 => exact cS8x10 HO303.out BK322.out); (case side4 => exact (Kd.R_reads' HO303.out).2.1); (case side5 => exact cS8x10 HO306.out BK322.out); (case side6 => exact (Kd.R_reads' HO306.out).2.1); (case side7 => refine (Kd.S_reads' (e := 24) (base := w.heap.size) (ok := fun k_ => ((((((((((some k_ ≠ (.slice Ao62 t311.length co62 : Value).ownBlock ∧ some k_ ≠ (.slice Ao63 t314.length co63 : Value).ownBlock) ∧ some k_ ≠ (.slice Ao38 t270.length co38 : Value).ownBlock) ∧ some k_ ≠ (.slice Ao39 t273.length co39 : Value).ownBlock) ∧ some k_ ≠ (.slice Ao40 t276.length co40 : Value).ownBlock) ∧ some k_ ≠ (.slice Ao41 t279.length co41 : Value).ownBlock) ∧ some k_ ≠ (.slice Ao42 t282.length co42 : Value).ownBlock) ∧ some k_ ≠ (.slice Ao43 t285.length co43 : Value).ownBlock) ∧ some k_ ≠ (.slice Ao51 t298.length co51 : Value).ownBlock) ∧ some k_ ≠ (.slice Ao52 t301.length co52 : Value).ownBlock) ∧ some k_ ≠ (.slice Ao53 t304.length co53 : Value).ownBlock)) (n := t308.length) (c := co57) ?_).2.2; exact (by (with_reducible repeat (first | apply Kd.S_alloc | apply Kd.S_drewN | apply Kd.S_drew)); exact (Kd.S_mono (Kd.S_far (p := ⟨gb322, 7, none⟩) (Kd.S_far (p := ⟨gb322, 6, none⟩) (Kd.S_far (p := ⟨gb322, 5, none⟩) (Kd.S_far (p := ⟨gb322, 4, none⟩) (Kd.S_far (p := ⟨gb322, 3, none⟩) (Kd.S_far (p := ⟨gb322, 2, none⟩) (Kd.S_far (p := ⟨gb322, 1, none⟩) (Kd.S_far (p := ⟨gb322, 0, none⟩) (Kd.S_types HO310.out BK322.out (by decide)) (fun _ hk => hk.2) (.slice Ao57 t308.length co57)) (fun _ hk => hk.2) (.slice Ao62 t311.length co62)) (fun _ hk => hk.2) (.slice Ao63 t314.length co63)) (fun _ hk => hk.2) (.int .i64 t317)) (fun _ hk => hk.2) (.int .i64 t318)) (fun _ hk => hk.2) (.int .i64 t319)) (fun _ hk => hk.2) (.int .i64 t320)) (fun _ hk => hk.2) (.int .i64 t321)) (fun _ h_ => h_.1)))); (case side8 => exact (Kd.S_reads' HO310.out).2.1); (case side9 => exact cS8x10 HO313.out BK322.out); (case side10 => exact (Kd.R_reads' HO313.out).2.1); (case side11 => exact cS8x10 HO316.out BK322.out); (case side12 => exact (Kd.R_reads' HO316.out).2.1); rintro e w65 ⟨rfl, hb⟩; refine ⟨_, rfl, ?_⟩; replace HO272 := Aside0.mk (Kd.R_below (sR8x10 HO272.out BK322.out) hb); replace HO275 := Aside0.mk (Kd.R_below (sR8x10 HO275.out BK322.out) hb); replace HO278 := Aside0.mk (Kd.R_below (sR8x10 HO278.out BK322.out) hb); replace HO281 := Aside0.mk (Kd.S_below (by (with_reducible repeat (first | apply Kd.S_alloc | apply Kd.S_drewN | apply Kd.S_drew)); exact (Kd.S_mono (Kd.S_far (p := ⟨gb322, 7, none⟩) (Kd.S_far (p := ⟨gb322, 6, none⟩) (Kd.S_far (p := ⟨gb322, 5, none⟩) (Kd.S_far (p := ⟨gb322, 4, none⟩) (Kd.S_far (p := ⟨gb322, 3, none⟩) (Kd.S_far (p := ⟨gb322, 2, none⟩) (Kd.S_far (p := ⟨gb322, 1, none⟩) (Kd.S_far (p := ⟨gb322, 0, none⟩) (Kd.S_types HO281.out BK322.out (by decide)) (fun _ hk => hk.2) (.slice Ao57 t308.length co57)) (fun _ hk => hk.2) (.slice Ao62 t311.length co62)) (fun _ hk => hk.2) (.slice Ao63 t314.length co63)) (fun _ hk => hk.2) (.int .i64 t317)) (fun _ hk => hk.2) (.int .i64 t318)) (fun _ hk => hk.2) (.int .i64 t319)) (fun _ hk => hk.2) (.int .i64 t320)) (fun _ hk => hk.2) (.int .i64 t321)) (fun _ h_ => h_.1))) hb); replace HO284 := Aside0.mk (Kd.R_below (sR8x10 HO284.out BK322.out) hb); replace HO287 := Aside0.mk (Kd.R_below (sR8x10 HO287.out BK322.out) hb); replace HO300 := Aside0.mk (Kd.R_below (sR8x10 HO300.out BK322.out) hb); replace HO303 := Aside0.mk (Kd.R_below (sR8x10 HO303.out BK322.out) hb); replace HO306 := Aside0.mk (Kd.R_below (sR8x10 HO306.out BK322.out) hb); replace HO310 := Aside0.mk (Kd.S_below (by (with_reducible repeat (first | apply Kd.S_alloc | apply Kd.S_drewN | apply Kd.S_drew)); exact (Kd.S_mono (Kd.S_far (p := ⟨gb322, 7, none⟩) (Kd.S_far (p := ⟨gb322, 6, none⟩) (Kd.S_far (p := ⟨gb322, 5, none⟩) (Kd.S_far (p := ⟨gb322, 4, none⟩) (Kd.S_far (p := ⟨gb322, 3, none⟩) (Kd.S_far (p := ⟨gb322, 2, none⟩) (Kd.S_far (p := ⟨gb322, 1, none⟩) (Kd.S_far (p := ⟨gb322, 0, none⟩) (Kd.S_types HO310.out BK322.out (by decide)) (fun _ hk => hk.2) (.slice Ao57 t308.length co57)) (fun _ hk => hk.2) (.slice Ao62 t311.length co62)) (fun _ hk => hk.2) (.slice Ao63 t314.length co63)) (fun _ hk => hk.2) (.int .i64 t317)) (fun _ hk => hk.2) (.int .i64 t318)) (fun _ hk => hk.2) (.int .i64 t319)) (fun _ hk => hk.2) (.int .i64 t320)) (fun _ hk => hk.2) (.int .i64 t321)) (fun _ h_ => h_.1))) hb); replace HO313 := Aside0.mk (Kd.R_below (sR8x10 HO313.out BK322.out) hb); replace HO316 := Aside0.mk (Kd.R_below (sR8x10 HO316.out BK322.out) hb); replace BK263 := Aside0.mk (blk_below (g := gb263) (o := .cells #[.int .i64 a0_0, .int .i64 a0_1, .int .i64 a0_2, .slice A0_3 l0_3.length c0_3, .slice A0_4 l0_4.length c0_4, .slice A0_5 l0_5.length c0_5] 26 (0, 0)) (bb8x10 BK263.out NB263_322.out) hb); replace BK264 := Aside0.mk (blk_below (g := gb264) (o := .cells #[.slice A1_0 l1_0.length c1_0, .slice A1_1 l1_1.length c1_1, .slice A1_2 l1_2.length c1_2, .int .i64 a1_3, .int .i64 a1_4, .int .i64 a1_5, .int .i64 a1_6, .int .i64 a1_7] 31 (0, 0)) (bb8x10 BK264.out NB264_322.out) hb); replace BK307 := Aside0.mk (blk_below (g := gb307) (o := .cells #[.int .i64 t295, .int .i64 t296, .int .i64 t297, .slice Ao51 t298.length co51, .slice Ao52 t301.length co52, .slice Ao53 t304.length co53] 41 (0, 0)) (bb8x10 BK307.out NB307_322.out) hb); replace BK322 := Aside0.mk (blk_below (g := gb322) (o := .cells #[.slice Ao57 t308.length co57, .slice Ao62 t311.length co62, .slice Ao63 t314.length co63, .int .i64 t317, .int .i64 t318, .int .i64 t319, .int .i64 t320, .int .i64 t321] 45 (0, 0)) (by (with_reducible repeat (first | refine blk_drewN ?_ _ | refine blk_drew ?_ | refine blk_alloc ?_ _)); refine blk_put (cs := #[.slice Ao57 t308.length co57, .slice Ao62 t311.length co62, .slice Ao63 t314.length co63, .int .i64 t317, .int .i64 t318, .int .i64 t319, .int .i64 t320, .int .i64 0]) ?_ 7 _ rfl; (with_reducible repeat (first | refine blk_drewN ?_ _ | refine blk_drew ?_ | refine blk_alloc ?_ _)); refine blk_put (cs := #[.slice Ao57 t308.length co57, .slice Ao62 t311.length co62, .slice Ao63 t314.length co63, .int .i64 t317, .int .i64 t318, .int .i64 t319, .int .i64 0, .int .i64 0]) ?_ 6 _ rfl; (with_reducible repeat (first | refine blk_drewN ?_ _ | refine blk_drew ?_ | refine blk_alloc ?_ _)); refine blk_put (cs := #[.slice Ao57 t308.length co57, .slice Ao62 t311.length co62, .slice Ao63 t314.length co63, .int .i64 t317, .int .i64 t318, .int .i64 0, .int .i64 0, .int .i64 0]) ?_ 5 _ rfl; (with_reducible repeat (first | refine blk_drewN ?_ _ | refine blk_drew ?_ | refine blk_alloc ?_ _)); refine blk_put (cs := #[.slice Ao57 t308.length co57, .slice Ao62 t311.length co62, .slice Ao63 t314.length co63, .int .i64 t317, .int .i64 0, .int .i64 0, .int .i64 0, .int .i64 0]) ?_ 4 _ rfl; (with_reducible repeat (first | refine blk_drewN ?_ _ | refine blk_drew ?_ | refine blk_alloc ?_ _)); refine blk_put (cs := #[.slice Ao57 t308.length co57, .slice Ao62 t311.length co62, .slice Ao63 t314.length co63, .int .i64 0, .int .i64 0, .int .i64 0, .int .i64 0, .int .i64 0]) ?_ 3 _ rfl; (with_reducible repeat (first | refine blk_drewN ?_ _ | refine blk_drew ?_ | refine blk_alloc ?_ _)); refine blk_put (cs := #[.slice Ao57 t308.length co57, .slice Ao62 t311.length co62, .slice none 0 0, .int .i64 0, .int .i64 0, .int .i64 0, .int .i64 0, .int .i64 0]) ?_ 2 _ rfl; (with_reducible repeat (first | refine blk_drewN ?_ _ | refine blk_drew ?_ | refine blk_alloc ?_ _)); refine blk_put (cs := #[.slice Ao57 t308.length co57, .slice none 0 0, .slice none 0 0, .int .i64 0, .int .i64 0, .int .i64 0, .int .i64 0, .int .i64 0]) ?_ 1 _ rfl; (with_reducible repeat (first | refine blk_drewN ?_ _ | refine blk_drew ?_ | refine blk_alloc ?_ _)); refine blk_put (cs := #[.slice none 0 0, .slice none 0 0, .slice none 0 0, .int .i64 0, .int .i64 0, .int .i64 0, .int .i64 0, .int .i64 0]) ?_ 0 _ rfl; (with_reducible repeat (first | refine blk_drewN ?_ _ | refine blk_drew ?_ | refine blk_alloc ?_ _)); exact BK322.out) hb); replace HB := Aside0.mk (below_step (be4x10 HB.out GE263.out GE264.out GE307.out GE322.out) hb); (try clear hb); (try clear hb2); (try clear hk); (try clear hi)))
   (try simp only [Act.put, List.setIfInBounds_toArray, List.set_cons_zero, List.set_cons_succ])
   go_cut [55] (fun v55 wc => ∃ (kq : Nat) (x55_26 : Bool), v55 = .bool x55_26 ∧ Aside0 (laws_FnExactDestinationOf.j0 kq x55_26 a0_0 a0_1 a0_2 l0_3 l0_4 l0_5 l1_0 l1_1 l1_2 a1_3 a1_4 a1_5 a1_6 a1_7 t295 t296 t297 t298 t301 t304 t308 t311 t314 t317 t318 t319 t320 t321 = some r) ∧ Aside0 (kq ≤ k) ∧ Aside0 (Kd.R (Kd.int .i64) 3 wc w.heap.size (fun k_ => some k_ ≠ ((.slice Ao52 t301.length co52) : Value).ownBlock ∧ some k_ ≠ ((.slice Ao53 t304.length co53) : Value).ownBlock ∧ some k_ ≠ ((.slice Ao62 t311.length co62) : Value).ownBlock ∧ some k_ ≠ ((.slice Ao63 t314.length co63) : Value).ownBlock) (.slice Ao51 t298.length co51) t298) ∧ Aside0 (Kd.R (Kd.int .i64) 3 wc w.heap.size (fun k_ => some k_ ≠ ((.slice Ao51 t298.length co51) : Value).ownBlock ∧ some k_ ≠ ((.slice Ao53 t304.length co53) : Value).ownBlock ∧ some k_ ≠ ((.slice Ao62 t311.length co62) : Value).ownBlock ∧ some k_ ≠ ((.slice Ao63 t314.length co63) : Value).ownBlock) (.slice Ao52 t301.length co52) t301) ∧ Aside0 (Kd.R (Kd.int .i64) 3 wc w.heap.size (fun k_ => some k_ ≠ ((.slice Ao51 t298.length co51) : Value).ownBlock ∧ some k_ ≠ ((.slice Ao52 t301.length co52) : Value).ownBlock ∧ some k_ ≠ ((.slice Ao62 t311.length co62) : Value).ownBlock ∧ some k_ ≠ ((.slice Ao63 t314.length co63) : Value).ownBlock) (.slice Ao53 t304.length co53) t304) ∧ Aside0 (Kd.S (Kd.slice 3 (Kd.int .i64)) 24 wc w.heap.size (fun k_ => some k_ ≠ ((.slice Ao51 t298.length co51) : Value).ownBlock ∧ some k_ ≠ ((.slice Ao52 t301.length co52) : Value).ownBlock ∧ some k_ ≠ ((.slice Ao53 t304.length co53) : Value).ownBlock ∧ some k_ ≠ ((.slice Ao62 t311.length co62) : Value).ownBlock ∧ some k_ ≠ ((.slice Ao63 t314.length co63) : Value).ownBlock) (.slice Ao57 t308.length co57) t308) ∧ Aside0 (Kd.R (Kd.int .i64) 3 wc w.heap.size (fun k_ => some k_ ≠ ((.slice Ao51 t298.length co51) : Value).ownBlock ∧ some k_ ≠ ((.slice Ao52 t301.length co52) : Value).ownBlock ∧ some k_ ≠ ((.slice Ao53 t304.length co53) : Value).ownBlock ∧ some k_ ≠ ((.slice Ao63 t314.length co63) : Value).ownBlock) (.slice Ao62 t311.length co62) t311) ∧ Aside0 (Kd.R (Kd.int .i64) 3 wc w.heap.size (fun k_ => some k_ ≠ ((.slice Ao51 t298.length co51) : Value).ownBlock ∧ some k_ ≠ ((.slice Ao52 t301.length co52) : Value).ownBlock ∧ some k_ ≠ ((.slice Ao53 t304.length co53) : Value).ownBlock ∧ some k_ ≠ ((.slice Ao62 t311.length co62) : Value).ownBlock) (.slice Ao63 t314.length co63) t314) ∧ Aside0 (wc.heap[gb263]? = some (.cells #[.int .i64 a0_0, .int .i64 a0_1, .int .i64 a0_2, (.slice A0_3 l0_3.length c0_3), (.slice A0_4 l0_4.length c0_4), (.slice A0_5 l0_5.length c0_5)] 26 (0, 0))) ∧ Aside0 (wc.heap[gb264]? = some (.cells #[(.slice A1_0 l1_0.length c1_0), (.slice A1_1 l1_1.length c1_1), (.slice A1_2 l1_2.length c1_2), .int .i64 a1_3, .int .i64 a1_4, .int .i64 a1_5, .int .i64 a1_6, .int .i64 a1_7] 31 (0, 0))) ∧ Aside0 (wc.heap[gb307]? = some (.cells #[.int .i64 t295, .int .i64 t296, .int .i64 t297, (.slice Ao51 t298.length co51), (.slice Ao52 t301.length co52), (.slice Ao53 t304.length co53)] 41 (0, 0))) ∧ Aside0 (wc.heap[gb322]? = some (.cells #[(.slice Ao57 t308.length co57), (.slice Ao62 t311.length co62), (.slice Ao63 t314.length co63), .int .i64 t317, .int .i64 t318, .int .i64 t319, .int .i64 t320, .int .i64 t321] 45 (0, 0))) ∧ Aside0 (Below w.heap.size w wc))
   case first =>
    have H := HC27.out
    clear HC27
    by_cases c66 : t323 = t293
    ·rw [if_pos c66] at H
     have c66b0 : (t323 == t293) = true := beq_iff_eq.mpr c66
     have c66b1 : (t323 != t293) = false := bne_eq_false_iff_eq.mpr c66
     clear c66
     (first | rw [c66b0] | (simp only [i64_w, i32_w]; rw [c66b0]) | skip)
     have H' := Aside0.mk H
     clear H
     go_wp2
     go_meet
     case rel => exact ⟨_, ((t324 != t294)), (by first | rfl | (simp; done) | (simp [*]; done)), H', ⟨by first | omega | exact Nat.le_refl _⟩, ⟨by exact rRx10 (Kd.R_mono HO300.out (fun _ hk => ⟨hk.1.1.1.1.1.1.1.1, ⟨hk.1.1.1.1.1.1.1.2, ⟨hk.1.2, hk.2⟩⟩⟩))⟩, ⟨by exact rRx10 (Kd.R_mono HO303.out (fun _ hk => ⟨hk.1.1.1.1.1.1.1.1, ⟨hk.1.1.1.1.1.1.1.2, ⟨hk.1.2, hk.2⟩⟩⟩))⟩, ⟨by exact rRx10 (Kd.R_mono HO306.out (fun _ hk => ⟨hk.1.1.1.1.1.1.1.1, ⟨hk.1.1.1.1.1.1.1.2, ⟨hk.1.2, hk.2⟩⟩⟩))⟩, ⟨by (with_reducible repeat (first | apply Kd.S_alloc | apply Kd.S_drewN | apply Kd.S_drew)); exact Kd.S_mono HO310.out (fun _ hk => ⟨hk.1.1.2, ⟨hk.1.2, ⟨hk.2, ⟨hk.1.1.1.1.1.1.1.1.1.1, hk.1.1.1.1.1.1.1.1.1.2⟩⟩⟩⟩)⟩, ⟨by exact rRx10 (Kd.R_mono HO313.out (fun _ hk => ⟨hk.1.1.2, ⟨hk.1.2, ⟨hk.2, hk.1.1.1.1.1.1.1.1⟩⟩⟩))⟩, ⟨by exact rRx10 (Kd.R_mono HO316.out (fun _ hk => ⟨hk.1.1.2, ⟨hk.1.2, ⟨hk.2, hk.1.1.1.1.1.1.1.1⟩⟩⟩))⟩, ⟨rBx10 BK263.out⟩, ⟨rBx10 BK264.out⟩, ⟨rBx10 BK307.out⟩, ⟨rBx10 BK322.out⟩, ⟨be4x10 HB.out GE263.out GE264.out GE307.out GE322.out⟩⟩
    ·rw [if_neg c66] at H
     have c66b0 : (t323 == t293) = false := beq_eq_false_iff_ne.mpr c66
     have c66b1 : (t323 != t293) = true := bne_iff_ne.mpr c66
     (first | rw [c66b0] | (simp only [i64_w, i32_w]; rw [c66b0]) | skip)
     have H' := Aside0.mk H
     clear H
     go_wp2
     go_meet
     case rel => exact ⟨_, (true), (by first | rfl | (simp; done) | (simp [*]; done)), H', ⟨by first | omega | exact Nat.le_refl _⟩, ⟨by exact rRx10 (Kd.R_mono HO300.out (fun _ hk => ⟨hk.1.1.1.1.1.1.1.1, ⟨hk.1.1.1.1.1.1.1.2, ⟨hk.1.2, hk.2⟩⟩⟩))⟩, ⟨by exact rRx10 (Kd.R_mono HO303.out (fun _ hk => ⟨hk.1.1.1.1.1.1.1.1, ⟨hk.1.1.1.1.1.1.1.2, ⟨hk.1.2, hk.2⟩⟩⟩))⟩, ⟨by exact rRx10 (Kd.R_mono HO306.out (fun _ hk => ⟨hk.1.1.1.1.1.1.1.1, ⟨hk.1.1.1.1.1.1.1.2, ⟨hk.1.2, hk.2⟩⟩⟩))⟩, ⟨by (with_reducible repeat (first | apply Kd.S_alloc | apply Kd.S_drewN | apply Kd.S_drew)); exact Kd.S_mono HO310.out (fun _ hk => ⟨hk.1.1.2, ⟨hk.1.2, ⟨hk.2, ⟨hk.1.1.1.1.1.1.1.1.1.1, hk.1.1.1.1.1.1.1.1.1.2⟩⟩⟩⟩)⟩, ⟨by exact rRx10 (Kd.R_mono HO313.out (fun _ hk => ⟨hk.1.1.2, ⟨hk.1.2, ⟨hk.2, hk.1.1.1.1.1.1.1.1⟩⟩⟩))⟩, ⟨by exact rRx10 (Kd.R_mono HO316.out (fun _ hk => ⟨hk.1.1.2, ⟨hk.1.2, ⟨hk.2, hk.1.1.1.1.1.1.1.1⟩⟩⟩))⟩, ⟨rBx10 BK263.out⟩, ⟨rBx10 BK264.out⟩, ⟨rBx10 BK307.out⟩, ⟨rBx10 BK322.out⟩, ⟨be4x10 HB.out GE263.out GE264.out GE307.out GE322.out⟩⟩
   case rest =>
    clear HC27
    try clear c6; try clear c6b0; try clear c13; try clear c13b0; try clear c66; try clear c66b0; try clear c66b1; try clear hcz10_0 hcz10_1 hcz10_2 hcz10_3 hcz10_4 hcz10_5; try clear hcz17_0 hcz17_1 hcz17_2 hcz17_3 hcz17_4 hcz17_5; try clear hcz19_0 hcz19_1 hcz19_2 hcz19_3 hcz19_4 hcz19_5 hcz19_6 hcz19_7; try clear hcz31_0 hcz31_1 hcz31_2 hcz31_3 hcz31_4 hcz31_5; try clear hcz33_0 hcz33_1 hcz33_2 hcz33_3 hcz33_4 hcz33_5 hcz33_6 hcz33_7; try clear hcz45_0 hcz45_1 hcz45_2 hcz45_3 hcz45_4 hcz45_5; try clear hcz50_0 hcz50_1 hcz50_2 hcz50_3 hcz50_4 hcz50_5; try clear hcz54_0 hcz54_1 hcz54_2 hcz54_3 hcz54_4 hcz54_5 hcz54_6 hcz54_7; try clear hcz61_0 hcz61_1 hcz61_2 hcz61_3 hcz61_4 hcz61_5 hcz61_6 hcz61_7; try clear hcz64_0 hcz64_1 hcz64_2 hcz64_3 hcz64_4 hcz64_5; try clear hfz10_0 hfz10_1 hfz10_2 hfz10_3 hfz10_4 hfz10_5; try clear hfz17_0 hfz17_1 hfz17_2 hfz17_3 hfz17_4 hfz17_5; try clear hfz19_0 hfz19_1 hfz19_2 hfz19_3 hfz19_4 hfz19_5 hfz19_6 hfz19_7; try clear hfz31_0 hfz31_1 hfz31_2 hfz31_3 hfz31_4 hfz31_5; try clear hfz33_0 hfz33_1 hfz33_2 hfz33_3 hfz33_4 hfz33_5 hfz33_6 hfz33_7; try clear hfz45_0 hfz45_1 hfz45_2 hfz45_3 hfz45_4 hfz45_5; try clear hfz50_0 hfz50_1 hfz50_2 hfz50_3 hfz50_4 hfz50_5; try clear hfz54_0 hfz54_1 hfz54_2 hfz54_3 hfz54_4 hfz54_5 hfz54_6 hfz54_7; try clear hfz61_0 hfz61_1 hfz61_2 hfz61_3 hfz61_4 hfz61_5 hfz61_6 hfz61_7; try clear hfz64_0 hfz64_1 hfz64_2 hfz64_3 hfz64_4 hfz64_5
    obtain ⟨kq, x55_26, rfl, HA, HJ26, HO_308003, HO_308004, HO_308005, HO_323000, HO_323001, HO_323002, BK263, BK264, BK307, BK322, HB⟩ := hcut
    cases kq with
    | zero => exact absurd HA.out (by simp [laws_FnExactDestinationOf.j0])
    | succ kj26 =>
     have H := HA.out
     clear HA
     simp only [laws_FnExactDestinationOf.j0] at H
     by_cases c67 : x55_26 = true
     ·subst c67
      have H1 : (some false) = some r := by rw [if_pos rfl] at H; exact H
      clear H
      have H := H1
      clear H1
      obtain rfl := Option.some.inj H
      go_wp2
      go_ret
      exact ⟨by first | rfl | (simp [errW_none, errW_some] <;> rfl) | (simp [*, errW_none, errW_some] <;> rfl), be4x10 HB.out GE263.out GE264.out GE307.out GE322.out⟩
     ·replace c67 := Bool.eq_false_iff.mpr c67
      subst c67
      have H1 : ((laws_toModel.f kj26 a0_0 a0_1 a0_2 l0_3 l0_4 l0_5).bind fun bt325 => ((laws_eqModel.f kj26 t295 t296 t297 t298 t301 t304 bt325.1 bt325.2.1 bt325.2.2.1 bt325.2.2.2.1 bt325.2.2.2.2.1 bt325.2.2.2.2.2).bind fun t337 => (if t337 = true then ((laws_toJob.f kj26 l1_0 l1_1 l1_2 a1_3 a1_4 a1_5 a1_6 a1_7).bind fun bt338 => ((laws_eqJob.f kj26 t308 t311 t314 t317 t318 t319 t320 t321 bt338.1 bt338.2.1 bt338.2.2.1 bt338.2.2.2.1 bt338.2.2.2.2.1 bt338.2.2.2.2.2.1 bt338.2.2.2.2.2.2.1 bt338.2.2.2.2.2.2.2).bind fun t352 => (if t352 = true then (some true) else (some false)))) else (some false)))) = some r := by rw [if_neg (show ¬ (false = true) by decide)] at H; exact H
      clear H
      have H := H1
      clear H1
      replace H := Option.bind_eq_some_iff.mp H
      obtain ⟨⟨t325, t326, t327, t328, t331, t334⟩, A680, H⟩ := H
      (try dsimp only at H)
      have A68 := Aside0.mk A680
      clear A680
      replace H := Option.bind_eq_some_iff.mp H
      obtain ⟨t337, A690, H⟩ := H
      have A69 := Aside0.mk A690
      clear A690
      by_cases c70 : t337 = true
      ·subst c70
       have H1 : ((laws_toJob.f kj26 l1_0 l1_1 l1_2 a1_3 a1_4 a1_5 a1_6 a1_7).bind fun bt338 => ((laws_eqJob.f kj26 t308 t311 t314 t317 t318 t319 t320 t321 bt338.1 bt338.2.1 bt338.2.2.1 bt338.2.2.2.1 bt338.2.2.2.2.1 bt338.2.2.2.2.2.1 bt338.2.2.2.2.2.2.1 bt338.2.2.2.2.2.2.2).bind fun t352 => (if t352 = true then (some true) else (some false)))) = some r := by rw [if_pos rfl] at H; exact H
       clear H
       have H := H1
       clear H1
       replace H := Option.bind_eq_some_iff.mp H
       obtain ⟨⟨t338, t341, t344, t347, t348, t349, t350, t351⟩, A710, H⟩ := H
       (try dsimp only at H)
       have A71 := Aside0.mk A710
       clear A710
       replace H := Option.bind_eq_some_iff.mp H
       obtain ⟨t352, A720, H⟩ := H
       have A72 := Aside0.mk A720
       clear A720
       by_cases c73 : t352 = true
       ·subst c73
        have H1 : (some true) = some r := by rw [if_pos rfl] at H; exact H
        clear H
        have H := H1
        clear H1
        obtain rfl := Option.some.inj H
        try go_wp2
        have n0_ := Aside0.mk (Kd.R_drew HO_308003.out)
        have n1_ := Aside0.mk (Kd.R_drew HO_308004.out)
        have n2_ := Aside0.mk (Kd.R_drew HO_308005.out)
        have n3_ := Aside0.mk (Kd.S_drew HO_323000.out)
        have n4_ := Aside0.mk (Kd.R_drew HO_323001.out)
        have n5_ := Aside0.mk (Kd.R_drew HO_323002.out)
        have n6_ := Aside0.mk (blk_drew BK263.out)
        have n7_ := Aside0.mk (blk_drew BK264.out)
        have n8_ := Aside0.mk (blk_drew BK307.out)
        have n9_ := Aside0.mk (blk_drew BK322.out)
        have n10_ := Aside0.mk (below_drew1 HB.out)
        clear HO_308003
        clear HO_308004
        clear HO_308005
        clear HO_323000
        clear HO_323001
        clear HO_323002
        clear BK263
        clear BK264
        clear BK307
        clear BK322
        clear HB
        have HO_308003 := n0_
        have HO_308004 := n1_
        have HO_308005 := n2_
        have HO_323000 := n3_
        have HO_323001 := n4_
        have HO_323002 := n5_
        have BK263 := n6_
        have BK264 := n7_
        have BK307 := n8_
        have BK322 := n9_
        have HB := n10_
        clear n0_ n1_ n2_ n3_ n4_ n5_ n6_ n7_ n8_ n9_ n10_
        refine start_ (n := 5) (S := fun w' => w'.cell? ⟨gb307, 0, none⟩ = some (.int .i64 t295) ∧ w'.cell? ⟨gb307, 1, none⟩ = some (.int .i64 t296) ∧ w'.cell? ⟨gb307, 2, none⟩ = some (.int .i64 t297) ∧ w'.cell? ⟨gb307, 3, none⟩ = some (.slice Ao51 t298.length co51) ∧ w'.cell? ⟨gb307, 4, none⟩ = some (.slice Ao52 t301.length co52) ∧ w'.cell? ⟨gb307, 5, none⟩ = some (.slice Ao53 t304.length co53) ∧ w'.cell? ⟨gb263, 0, none⟩ = some (.int .i64 a0_0) ∧ w'.cell? ⟨gb263, 1, none⟩ = some (.int .i64 a0_1) ∧ w'.cell? ⟨gb263, 2, none⟩ = some (.int .i64 a0_2) ∧ w'.cell? ⟨gb263, 3, none⟩ = some (.slice A0_3 l0_3.length c0_3) ∧ w'.cell? ⟨gb263, 4, none⟩ = some (.slice A0_4 l0_4.length c0_4) ∧ w'.cell? ⟨gb263, 5, none⟩ = some (.slice A0_5 l0_5.length c0_5)) (ds := []) #[false, false, false, false, false] (by kernel_rfl) rfl rfl (ca6x10 BK307.out (cc6x10 BK263.out)) (fun hHeld => ?_)
        generalize wc.drew = w74 at HO_308003 HO_308004 HO_308005 HO_323000 HO_323001 HO_323002 BK263 BK264 BK307 BK322 HB hHeld ⊢
        refine take_ (i := 0) (N := some 56) (v := ?_) (a' := ?_) #[true, false, false, false, false] rfl rfl (by kernel_rfl) (fun _ _ _ h => h) (Or.inl ⟨by rfl, ?_⟩) hHeld ?_ ?_
        rotate_left
        ·rintro w' ⟨s0, s1, s2, s3, s4, s5, s6, s7, s8, s9, s10, s11⟩
         go_simp
         with_reducible rfl
        rotate_left
        ·simp only [Act.put, List.setIfInBounds_toArray, List.set_cons_zero, List.set_cons_succ, i64_w, i32_w]
         rfl
        refine take_ (i := 1) (N := some 57) (v := ?_) (a' := ?_) #[true, true, false, false, false] rfl rfl (by kernel_rfl) (fun _ _ _ h => h) (Or.inl ⟨by rfl, ?_⟩) hHeld ?_ ?_
        rotate_left
        ·rintro w' ⟨s0, s1, s2, s3, s4, s5, s6, s7, s8, s9, s10, s11⟩
         go_simp
         with_reducible rfl
        rotate_left
        ·simp only [Act.put, List.setIfInBounds_toArray, List.set_cons_zero, List.set_cons_succ, i64_w, i32_w]
         rfl
        refine one_ (i := 2) (N := some 58) #[true, true, true, false, false] rfl rfl (by kernel_rfl) (by decide) (fun K hK => ?_)
        refine goes_ Try.func19 (by kernel_rfl) rfl #[.agg #[.int .i64 a0_0, .int .i64 a0_1, .int .i64 a0_2, .slice A0_3 l0_3.length c0_3, .slice A0_4 l0_4.length c0_4, .slice A0_5 l0_5.length c0_5]] (by rfl) rfl rfl mpx10 ?_
        with_reducible refine (laws_toModel.calls kj26 a0_0 a0_1 a0_2 _ _ l0_3 _ _ l0_4 _ _ l0_5 t325 t326 t327 t328 t331 t334 _ ?side1 ?side2 ?side3 ?side4 ?side5 ?side6 A68.out).mono ?_
        (case side1 => exact rCx10 (Kd.C_below HR0_3.out HB.out))
        (case side2 => exact HC0_3.out)
        (case side3 => exact rCx10 (Kd.C_below HR0_4.out HB.out))
        (case side4 => exact HC0_4.out)
        (case side5 => exact rCx10 (Kd.C_below HR0_5.out HB.out))
        (case side6 => exact HC0_5.out)
        rintro e w75 ⟨v329, v332, v335, rfl, ho0, ho1, ho2, hb⟩
        refine ⟨_, rfl, ?_⟩
        have n0_ := Aside0.mk (kp3x10 (rRx10 HO_308003.out) hb ho0 ho1 ho2)
        have n1_ := Aside0.mk (kp3x10 (rRx10 HO_308004.out) hb ho0 ho1 ho2)
        have n2_ := Aside0.mk (kp3x10 (rRx10 HO_308005.out) hb ho0 ho1 ho2)
        have n3_ := Aside0.mk (Kd.S_mono (Kd.S_told (Kd.S_told (Kd.S_told (Kd.S_old (rSx10 HO_323000.out) hb) (Kd.R_base ho0)) (Kd.R_base ho1)) (Kd.R_base ho2)) (fun _ h_ => h_.1))
        have n4_ := Aside0.mk (kp3x10 (rRx10 HO_323001.out) hb ho0 ho1 ho2)
        have n5_ := Aside0.mk (kp3x10 (rRx10 HO_323002.out) hb ho0 ho1 ho2)
        have n6_ := Aside0.mk (Kd.R_lower (Kd.R_new' (Kd.R_new' (Kd.R_new' (Kd.R_new' (Kd.R_new' ho0 (Kd.R_lt (rRx10 HO_308003.out))) (Kd.R_lt (rRx10 HO_308004.out))) (Kd.R_lt (rRx10 HO_308005.out))) (Kd.R_lt (rRx10 HO_323001.out))) (Kd.R_lt (rRx10 HO_323002.out))) (below_size (be4x10 HB.out GE263.out GE264.out GE307.out GE322.out)))
        have n7_ := Aside0.mk (Kd.R_lower (Kd.R_new' (Kd.R_new' (Kd.R_new' (Kd.R_new' (Kd.R_new' ho1 (Kd.R_lt (rRx10 HO_308003.out))) (Kd.R_lt (rRx10 HO_308004.out))) (Kd.R_lt (rRx10 HO_308005.out))) (Kd.R_lt (rRx10 HO_323001.out))) (Kd.R_lt (rRx10 HO_323002.out))) (below_size (be4x10 HB.out GE263.out GE264.out GE307.out GE322.out)))
        have n8_ := Aside0.mk (Kd.R_lower (Kd.R_new' (Kd.R_new' (Kd.R_new' (Kd.R_new' (Kd.R_new' ho2 (Kd.R_lt (rRx10 HO_308003.out))) (Kd.R_lt (rRx10 HO_308004.out))) (Kd.R_lt (rRx10 HO_308005.out))) (Kd.R_lt (rRx10 HO_323001.out))) (Kd.R_lt (rRx10 HO_323002.out))) (below_size (be4x10 HB.out GE263.out GE264.out GE307.out GE322.out)))
        have n9_ := Aside0.mk (blk_below (g := gb263) (o := .cells #[.int .i64 a0_0, .int .i64 a0_1, .int .i64 a0_2, .slice A0_3 l0_3.length c0_3, .slice A0_4 l0_4.length c0_4, .slice A0_5 l0_5.length c0_5] 26 (0, 0)) (rBx10 BK263.out) hb)
        have n10_ := Aside0.mk (blk_below (g := gb264) (o := .cells #[.slice A1_0 l1_0.length c1_0, .slice A1_1 l1_1.length c1_1, .slice A1_2 l1_2.length c1_2, .int .i64 a1_3, .int .i64 a1_4, .int .i64 a1_5, .int .i64 a1_6, .int .i64 a1_7] 31 (0, 0)) (rBx10 BK264.out) hb)
        have n11_ := Aside0.mk (blk_below (g := gb307) (o := .cells #[.int .i64 t295, .int .i64 t296, .int .i64 t297, .slice Ao51 t298.length co51, .slice Ao52 t301.length co52, .slice Ao53 t304.length co53] 41 (0, 0)) (rBx10 BK307.out) hb)
        have n12_ := Aside0.mk (blk_below (g := gb322) (o := .cells #[.slice Ao57 t308.length co57, .slice Ao62 t311.length co62, .slice Ao63 t314.length co63, .int .i64 t317, .int .i64 t318, .int .i64 t319, .int .i64 t320, .int .i64 t321] 45 (0, 0)) (rBx10 BK322.out) hb)
        have n13_ := Aside0.mk (below_step (be4x10 HB.out GE263.out GE264.out GE307.out GE322.out) hb)
        clear HO_308003
        clear HO_308004
        clear HO_308005
        clear HO_323000
        clear HO_323001
        clear HO_323002
        clear BK263
        clear BK264
        clear BK307
        clear BK322
        clear HB
        have HO_308003 := n0_
        have HO_308004 := n1_
        have HO_308005 := n2_
        have HO_323000 := n3_
        have HO_323001 := n4_
        have HO_323002 := n5_
        have HO330 := n6_
        have HO333 := n7_
        have HO336 := n8_
        have BK263 := n9_
        have BK264 := n10_
        have BK307 := n11_
        have BK322 := n12_
        have HB := n13_
        clear n0_ n1_ n2_ n3_ n4_ n5_ n6_ n7_ n8_ n9_ n10_ n11_ n12_ n13_
        (try clear hb)
        (try clear hb2)
        (try clear hk)
        (try clear hi)
        (try clear ho0)
        (try clear ho1)
        (try clear ho2)
        obtain ⟨Ao76, co76, eo76⟩ := Kd.R_slice HO330.out
        (first | subst eo76 | (injection eo76 with f1_ f2_ f3_; have f4_ := f1_.symm; have f5_ := f3_.symm; clear f1_ f2_ f3_; subst f4_; subst f5_))
        obtain ⟨Ao77, co77, eo77⟩ := Kd.R_slice HO333.out
        (first | subst eo77 | (injection eo77 with f1_ f2_ f3_; have f4_ := f1_.symm; have f5_ := f3_.symm; clear f1_ f2_ f3_; subst f4_; subst f5_))
        obtain ⟨Ao78, co78, eo78⟩ := Kd.R_slice HO336.out
        (first | subst eo78 | (injection eo78 with f1_ f2_ f3_; have f4_ := f1_.symm; have f5_ := f3_.symm; clear f1_ f2_ f3_; subst f4_; subst f5_))
        refine hK.out _ _ (ca6x10 BK307.out (cc6x10 BK263.out)) (fun hHeld => ?_)
        clear hK K
        refine norm_ (a' := ?_) ?_ ?_
        rotate_left
        ·show Act.put _ (some 58) _ = _
         simp only [Act.put, List.setIfInBounds_toArray, List.set_cons_zero, List.set_cons_succ, i64_w, i32_w]
         rfl
        refine one_ (i := 3) (N := some 59) #[true, true, true, true, false] rfl rfl (by kernel_rfl) (by decide) (fun K hK => ?_)
        refine goes_ Try.func24 (by kernel_rfl) rfl #[.agg #[.int .i64 t295, .int .i64 t296, .int .i64 t297, .slice Ao51 t298.length co51, .slice Ao52 t301.length co52, .slice Ao53 t304.length co53], .agg #[.int .i64 t325, .int .i64 t326, .int .i64 t327, .slice Ao76 t328.length co76, .slice Ao77 t331.length co77, .slice Ao78 t334.length co78]] (by rfl) rfl rfl mpx10 ?_
        with_reducible refine (laws_eqModel.calls kj26 t295 t296 t297 _ _ t298 _ _ t301 _ _ t304 t325 t326 t327 _ _ t328 _ _ t331 _ _ t334 true _ ?side1 ?side2 ?side3 ?side4 ?side5 ?side6 ?side7 ?side8 ?side9 ?side10 ?side11 ?side12 A69.out).mono ?_
        (case side1 => exact cRx10 HO_308003.out)
        (case side2 => exact (Kd.R_reads' HO_308003.out).2.1)
        (case side3 => exact cRx10 HO_308004.out)
        (case side4 => exact (Kd.R_reads' HO_308004.out).2.1)
        (case side5 => exact cRx10 HO_308005.out)
        (case side6 => exact (Kd.R_reads' HO_308005.out).2.1)
        (case side7 => exact cRx10 HO330.out)
        (case side8 => exact (Kd.R_reads' HO330.out).2.1)
        (case side9 => exact cRx10 HO333.out)
        (case side10 => exact (Kd.R_reads' HO333.out).2.1)
        (case side11 => exact cRx10 HO336.out)
        (case side12 => exact (Kd.R_reads' HO336.out).2.1)
        rintro e w79 ⟨rfl, hb⟩
        refine ⟨_, rfl, ?_⟩
        have n0_ := Aside0.mk (Kd.R_below (rRx10 HO_308003.out) hb)
        have n1_ := Aside0.mk (Kd.R_below (rRx10 HO_308004.out) hb)
        have n2_ := Aside0.mk (Kd.R_below (rRx10 HO_308005.out) hb)
        have n3_ := Aside0.mk (Kd.S_below (rSx10 HO_323000.out) hb)
        have n4_ := Aside0.mk (Kd.R_below (rRx10 HO_323001.out) hb)
        have n5_ := Aside0.mk (Kd.R_below (rRx10 HO_323002.out) hb)
        have n6_ := Aside0.mk (Kd.R_below (rRx10 HO330.out) hb)
        have n7_ := Aside0.mk (Kd.R_below (rRx10 HO333.out) hb)
        have n8_ := Aside0.mk (Kd.R_below (rRx10 HO336.out) hb)
        have n9_ := Aside0.mk (blk_below (g := gb263) (o := .cells #[.int .i64 a0_0, .int .i64 a0_1, .int .i64 a0_2, .slice A0_3 l0_3.length c0_3, .slice A0_4 l0_4.length c0_4, .slice A0_5 l0_5.length c0_5] 26 (0, 0)) (rBx10 BK263.out) hb)
        have n10_ := Aside0.mk (blk_below (g := gb264) (o := .cells #[.slice A1_0 l1_0.length c1_0, .slice A1_1 l1_1.length c1_1, .slice A1_2 l1_2.length c1_2, .int .i64 a1_3, .int .i64 a1_4, .int .i64 a1_5, .int .i64 a1_6, .int .i64 a1_7] 31 (0, 0)) (rBx10 BK264.out) hb)
        have n11_ := Aside0.mk (blk_below (g := gb307) (o := .cells #[.int .i64 t295, .int .i64 t296, .int .i64 t297, .slice Ao51 t298.length co51, .slice Ao52 t301.length co52, .slice Ao53 t304.length co53] 41 (0, 0)) (rBx10 BK307.out) hb)
        have n12_ := Aside0.mk (blk_below (g := gb322) (o := .cells #[.slice Ao57 t308.length co57, .slice Ao62 t311.length co62, .slice Ao63 t314.length co63, .int .i64 t317, .int .i64 t318, .int .i64 t319, .int .i64 t320, .int .i64 t321] 45 (0, 0)) (rBx10 BK322.out) hb)
        have n13_ := Aside0.mk (below_step (be4x10 HB.out GE263.out GE264.out GE307.out GE322.out) hb)
        clear HO_308003
        clear HO_308004
        clear HO_308005
        clear HO_323000
        clear HO_323001
        clear HO_323002
        clear HO330
        clear HO333
        clear HO336
        clear BK263
        clear BK264
        clear BK307
        clear BK322
        clear HB
        have HO_308003 := n0_
        have HO_308004 := n1_
        have HO_308005 := n2_
        have HO_323000 := n3_
        have HO_323001 := n4_
        have HO_323002 := n5_
        have HO330 := n6_
        have HO333 := n7_
        have HO336 := n8_
        have BK263 := n9_
        have BK264 := n10_
        have BK307 := n11_
        have BK322 := n12_
        have HB := n13_
        clear n0_ n1_ n2_ n3_ n4_ n5_ n6_ n7_ n8_ n9_ n10_ n11_ n12_ n13_
        (try clear hb)
        (try clear hb2)
        (try clear hk)
        (try clear hi)
        refine hK.out _ _ (ca6x10 BK307.out (cc6x10 BK263.out)) (fun hHeld => ?_)
        clear hK K
        refine norm_ (a' := ?_) ?_ ?_
        rotate_left
        ·show Act.put _ (some 59) _ = _
         simp only [Act.put, List.setIfInBounds_toArray, List.set_cons_zero, List.set_cons_succ, i64_w, i32_w]
         rfl
        refine pure_ (i := 4) (N := some 60) (v := ?_) (a' := ?_) #[true, true, true, true, true] rfl rfl (by kernel_rfl) (fun _ _ _ h => h) (Or.inl ⟨by rfl, ?_⟩) ?_ ?_
        rotate_left
        ·intro w'
         go_simp
         with_reducible rfl
        rotate_left
        ·simp only [Act.put, List.setIfInBounds_toArray, List.set_cons_zero, List.set_cons_succ, i64_w, i32_w]
         rfl
        refine done_ (by kernel_rfl) ?_
        try go_wp2
        have n0_ := Aside0.mk (Kd.R_drew HO_308003.out)
        have n1_ := Aside0.mk (Kd.R_drew HO_308004.out)
        have n2_ := Aside0.mk (Kd.R_drew HO_308005.out)
        have n3_ := Aside0.mk (Kd.S_drew HO_323000.out)
        have n4_ := Aside0.mk (Kd.R_drew HO_323001.out)
        have n5_ := Aside0.mk (Kd.R_drew HO_323002.out)
        have n6_ := Aside0.mk (Kd.R_drew HO330.out)
        have n7_ := Aside0.mk (Kd.R_drew HO333.out)
        have n8_ := Aside0.mk (Kd.R_drew HO336.out)
        have n9_ := Aside0.mk (blk_drew BK263.out)
        have n10_ := Aside0.mk (blk_drew BK264.out)
        have n11_ := Aside0.mk (blk_drew BK307.out)
        have n12_ := Aside0.mk (blk_drew BK322.out)
        have n13_ := Aside0.mk (below_drew1 HB.out)
        clear HO_308003
        clear HO_308004
        clear HO_308005
        clear HO_323000
        clear HO_323001
        clear HO_323002
        clear HO330
        clear HO333
        clear HO336
        clear BK263
        clear BK264
        clear BK307
        clear BK322
        clear HB
        have HO_308003 := n0_
        have HO_308004 := n1_
        have HO_308005 := n2_
        have HO_323000 := n3_
        have HO_323001 := n4_
        have HO_323002 := n5_
        have HO330 := n6_
        have HO333 := n7_
        have HO336 := n8_
        have BK263 := n9_
        have BK264 := n10_
        have BK307 := n11_
        have BK322 := n12_
        have HB := n13_
        clear n0_ n1_ n2_ n3_ n4_ n5_ n6_ n7_ n8_ n9_ n10_ n11_ n12_ n13_
        refine start_ (n := 5) (S := fun w' => w'.cell? ⟨gb322, 0, none⟩ = some (.slice Ao57 t308.length co57) ∧ w'.cell? ⟨gb322, 1, none⟩ = some (.slice Ao62 t311.length co62) ∧ w'.cell? ⟨gb322, 2, none⟩ = some (.slice Ao63 t314.length co63) ∧ w'.cell? ⟨gb322, 3, none⟩ = some (.int .i64 t317) ∧ w'.cell? ⟨gb322, 4, none⟩ = some (.int .i64 t318) ∧ w'.cell? ⟨gb322, 5, none⟩ = some (.int .i64 t319) ∧ w'.cell? ⟨gb322, 6, none⟩ = some (.int .i64 t320) ∧ w'.cell? ⟨gb322, 7, none⟩ = some (.int .i64 t321) ∧ w'.cell? ⟨gb264, 0, none⟩ = some (.slice A1_0 l1_0.length c1_0) ∧ w'.cell? ⟨gb264, 1, none⟩ = some (.slice A1_1 l1_1.length c1_1) ∧ w'.cell? ⟨gb264, 2, none⟩ = some (.slice A1_2 l1_2.length c1_2) ∧ w'.cell? ⟨gb264, 3, none⟩ = some (.int .i64 a1_3) ∧ w'.cell? ⟨gb264, 4, none⟩ = some (.int .i64 a1_4) ∧ w'.cell? ⟨gb264, 5, none⟩ = some (.int .i64 a1_5) ∧ w'.cell? ⟨gb264, 6, none⟩ = some (.int .i64 a1_6) ∧ w'.cell? ⟨gb264, 7, none⟩ = some (.int .i64 a1_7)) (ds := []) #[false, false, false, false, false] (by kernel_rfl) rfl rfl (ca8x10 BK322.out (cc8x10 BK264.out)) (fun hHeld => ?_)
        generalize w79.drew = w80 at HO_308003 HO_308004 HO_308005 HO_323000 HO_323001 HO_323002 HO330 HO333 HO336 BK263 BK264 BK307 BK322 HB hHeld ⊢
        refine take_ (i := 0) (N := some 61) (v := ?_) (a' := ?_) #[true, false, false, false, false] rfl rfl (by kernel_rfl) (fun _ _ _ h => h) (Or.inl ⟨by rfl, ?_⟩) hHeld ?_ ?_
        rotate_left
        ·rintro w' ⟨s0, s1, s2, s3, s4, s5, s6, s7, s8, s9, s10, s11, s12, s13, s14, s15⟩
         go_simp
         with_reducible rfl
        rotate_left
        ·simp only [Act.put, List.setIfInBounds_toArray, List.set_cons_zero, List.set_cons_succ, i64_w, i32_w]
         rfl
        refine take_ (i := 1) (N := some 62) (v := ?_) (a' := ?_) #[true, true, false, false, false] rfl rfl (by kernel_rfl) (fun _ _ _ h => h) (Or.inl ⟨by rfl, ?_⟩) hHeld ?_ ?_
        rotate_left
        ·rintro w' ⟨s0, s1, s2, s3, s4, s5, s6, s7, s8, s9, s10, s11, s12, s13, s14, s15⟩
         go_simp
         with_reducible rfl
        rotate_left
        ·simp only [Act.put, List.setIfInBounds_toArray, List.set_cons_zero, List.set_cons_succ, i64_w, i32_w]
         rfl
        refine one_ (i := 2) (N := some 63) #[true, true, true, false, false] rfl rfl (by kernel_rfl) (by decide) (fun K hK => ?_)
        refine goes_ Try.func20 (by kernel_rfl) rfl #[.agg #[.slice A1_0 l1_0.length c1_0, .slice A1_1 l1_1.length c1_1, .slice A1_2 l1_2.length c1_2, .int .i64 a1_3, .int .i64 a1_4, .int .i64 a1_5, .int .i64 a1_6, .int .i64 a1_7]] (by rfl) rfl rfl mpx10 ?_
        with_reducible refine (laws_toJob.calls kj26 _ _ l1_0 _ _ l1_1 _ _ l1_2 a1_3 a1_4 a1_5 a1_6 a1_7 t338 t341 t344 t347 t348 t349 t350 t351 _ ?side1 ?side2 ?side3 ?side4 ?side5 ?side6 A71.out).mono ?_
        (case side1 => exact rCx10 (Kd.C_below HR1_0.out HB.out))
        (case side2 => exact HC1_0.out)
        (case side3 => exact rCx10 (Kd.C_below HR1_1.out HB.out))
        (case side4 => exact HC1_1.out)
        (case side5 => exact rCx10 (Kd.C_below HR1_2.out HB.out))
        (case side6 => exact HC1_2.out)
        rintro e w81 ⟨v339, v342, v345, rfl, ho0, ho1, ho2, hb⟩
        refine ⟨_, rfl, ?_⟩
        have n0_ := Aside0.mk (Kd.R_mono (Kd.R_told (Kd.R_told (Kd.R_old (rRx10 HO_308003.out) hb) (Kd.R_base ho1)) (Kd.R_base ho2)) (fun _ h_ => h_.1))
        have n1_ := Aside0.mk (Kd.R_mono (Kd.R_told (Kd.R_told (Kd.R_old (rRx10 HO_308004.out) hb) (Kd.R_base ho1)) (Kd.R_base ho2)) (fun _ h_ => h_.1))
        have n2_ := Aside0.mk (Kd.R_mono (Kd.R_told (Kd.R_told (Kd.R_old (rRx10 HO_308005.out) hb) (Kd.R_base ho1)) (Kd.R_base ho2)) (fun _ h_ => h_.1))
        have n3_ := Aside0.mk (Kd.S_mono (Kd.S_told (Kd.S_told (Kd.S_told (Kd.S_old (rSx10 HO_323000.out) hb) (Kd.S_base ho0)) (Kd.R_base ho1)) (Kd.R_base ho2)) (fun _ h_ => h_.1))
        have n4_ := Aside0.mk (Kd.R_mono (Kd.R_told (Kd.R_told (Kd.R_old (rRx10 HO_323001.out) hb) (Kd.R_base ho1)) (Kd.R_base ho2)) (fun _ h_ => h_.1))
        have n5_ := Aside0.mk (Kd.R_mono (Kd.R_told (Kd.R_told (Kd.R_old (rRx10 HO_323002.out) hb) (Kd.R_base ho1)) (Kd.R_base ho2)) (fun _ h_ => h_.1))
        have n6_ := Aside0.mk (Kd.R_mono (Kd.R_told (Kd.R_told (Kd.R_old (rRx10 HO330.out) hb) (Kd.R_base ho1)) (Kd.R_base ho2)) (fun _ h_ => h_.1))
        have n7_ := Aside0.mk (Kd.R_mono (Kd.R_told (Kd.R_told (Kd.R_old (rRx10 HO333.out) hb) (Kd.R_base ho1)) (Kd.R_base ho2)) (fun _ h_ => h_.1))
        have n8_ := Aside0.mk (Kd.R_mono (Kd.R_told (Kd.R_told (Kd.R_old (rRx10 HO336.out) hb) (Kd.R_base ho1)) (Kd.R_base ho2)) (fun _ h_ => h_.1))
        have n9_ := Aside0.mk (Kd.S_lower (Kd.S_new' (Kd.S_new' (Kd.S_new' (Kd.S_new' (Kd.S_new' (Kd.S_new' (Kd.S_new' (Kd.S_new' (Kd.S_new' ho0 (Kd.R_lt (rRx10 HO_308003.out))) (Kd.R_lt (rRx10 HO_308004.out))) (Kd.R_lt (rRx10 HO_308005.out))) (Kd.S_lt (rSx10 HO_323000.out))) (Kd.R_lt (rRx10 HO_323001.out))) (Kd.R_lt (rRx10 HO_323002.out))) (Kd.R_lt (rRx10 HO330.out))) (Kd.R_lt (rRx10 HO333.out))) (Kd.R_lt (rRx10 HO336.out))) (below_size (be4x10 HB.out GE263.out GE264.out GE307.out GE322.out)))
        have n10_ := Aside0.mk (Kd.R_lower (Kd.R_new' (Kd.R_new' (Kd.R_new' (Kd.R_new' (Kd.R_new' (Kd.R_new' (Kd.R_new' (Kd.R_new' ho1 (Kd.R_lt (rRx10 HO_308003.out))) (Kd.R_lt (rRx10 HO_308004.out))) (Kd.R_lt (rRx10 HO_308005.out))) (Kd.R_lt (rRx10 HO_323001.out))) (Kd.R_lt (rRx10 HO_323002.out))) (Kd.R_lt (rRx10 HO330.out))) (Kd.R_lt (rRx10 HO333.out))) (Kd.R_lt (rRx10 HO336.out))) (below_size (be4x10 HB.out GE263.out GE264.out GE307.out GE322.out)))
        have n11_ := Aside0.mk (Kd.R_lower (Kd.R_new' (Kd.R_new' (Kd.R_new' (Kd.R_new' (Kd.R_new' (Kd.R_new' (Kd.R_new' (Kd.R_new' ho2 (Kd.R_lt (rRx10 HO_308003.out))) (Kd.R_lt (rRx10 HO_308004.out))) (Kd.R_lt (rRx10 HO_308005.out))) (Kd.R_lt (rRx10 HO_323001.out))) (Kd.R_lt (rRx10 HO_323002.out))) (Kd.R_lt (rRx10 HO330.out))) (Kd.R_lt (rRx10 HO333.out))) (Kd.R_lt (rRx10 HO336.out))) (below_size (be4x10 HB.out GE263.out GE264.out GE307.out GE322.out)))
        have n12_ := Aside0.mk (blk_below (g := gb263) (o := .cells #[.int .i64 a0_0, .int .i64 a0_1, .int .i64 a0_2, .slice A0_3 l0_3.length c0_3, .slice A0_4 l0_4.length c0_4, .slice A0_5 l0_5.length c0_5] 26 (0, 0)) (rBx10 BK263.out) hb)
        have n13_ := Aside0.mk (blk_below (g := gb264) (o := .cells #[.slice A1_0 l1_0.length c1_0, .slice A1_1 l1_1.length c1_1, .slice A1_2 l1_2.length c1_2, .int .i64 a1_3, .int .i64 a1_4, .int .i64 a1_5, .int .i64 a1_6, .int .i64 a1_7] 31 (0, 0)) (rBx10 BK264.out) hb)
        have n14_ := Aside0.mk (blk_below (g := gb307) (o := .cells #[.int .i64 t295, .int .i64 t296, .int .i64 t297, .slice Ao51 t298.length co51, .slice Ao52 t301.length co52, .slice Ao53 t304.length co53] 41 (0, 0)) (rBx10 BK307.out) hb)
        have n15_ := Aside0.mk (blk_below (g := gb322) (o := .cells #[.slice Ao57 t308.length co57, .slice Ao62 t311.length co62, .slice Ao63 t314.length co63, .int .i64 t317, .int .i64 t318, .int .i64 t319, .int .i64 t320, .int .i64 t321] 45 (0, 0)) (rBx10 BK322.out) hb)
        have n16_ := Aside0.mk (below_step (be4x10 HB.out GE263.out GE264.out GE307.out GE322.out) hb)
        clear HO_308003
        clear HO_308004
        clear HO_308005
        clear HO_323000
        clear HO_323001
        clear HO_323002
        clear HO330
        clear HO333
        clear HO336
        clear BK263
        clear BK264
        clear BK307
        clear BK322
        clear HB
        have HO_308003 := n0_
        have HO_308004 := n1_
        have HO_308005 := n2_
        have HO_323000 := n3_
        have HO_323001 := n4_
        have HO_323002 := n5_
        have HO330 := n6_
        have HO333 := n7_
        have HO336 := n8_
        have HO340 := n9_
        have HO343 := n10_
        have HO346 := n11_
        have BK263 := n12_
        have BK264 := n13_
        have BK307 := n14_
        have BK322 := n15_
        have HB := n16_
        clear n0_ n1_ n2_ n3_ n4_ n5_ n6_ n7_ n8_ n9_ n10_ n11_ n12_ n13_ n14_ n15_ n16_
        (try clear hb)
        (try clear hb2)
        (try clear hk)
        (try clear hi)
        (try clear ho0)
        (try clear ho1)
        (try clear ho2)
        obtain ⟨Ao82, co82, eo82⟩ := Kd.S_slice HO340.out
        (first | subst eo82 | (injection eo82 with f1_ f2_ f3_; have f4_ := f1_.symm; have f5_ := f3_.symm; clear f1_ f2_ f3_; subst f4_; subst f5_))
        obtain ⟨Ao83, co83, eo83⟩ := Kd.R_slice HO343.out
        (first | subst eo83 | (injection eo83 with f1_ f2_ f3_; have f4_ := f1_.symm; have f5_ := f3_.symm; clear f1_ f2_ f3_; subst f4_; subst f5_))
        obtain ⟨Ao84, co84, eo84⟩ := Kd.R_slice HO346.out
        (first | subst eo84 | (injection eo84 with f1_ f2_ f3_; have f4_ := f1_.symm; have f5_ := f3_.symm; clear f1_ f2_ f3_; subst f4_; subst f5_))
        refine hK.out _ _ (ca8x10 BK322.out (cc8x10 BK264.out)) (fun hHeld => ?_)
        clear hK K
        refine norm_ (a' := ?_) ?_ ?_
        rotate_left
        ·show Act.put _ (some 63) _ = _
         simp only [Act.put, List.setIfInBounds_toArray, List.set_cons_zero, List.set_cons_succ, i64_w, i32_w]
         rfl
        refine one_ (i := 3) (N := some 64) #[true, true, true, true, false] rfl rfl (by kernel_rfl) (by decide) (fun K hK => ?_)
        refine goes_ Try.func25 (by kernel_rfl) rfl #[.agg #[.slice Ao57 t308.length co57, .slice Ao62 t311.length co62, .slice Ao63 t314.length co63, .int .i64 t317, .int .i64 t318, .int .i64 t319, .int .i64 t320, .int .i64 t321], .agg #[.slice Ao82 t338.length co82, .slice Ao83 t341.length co83, .slice Ao84 t344.length co84, .int .i64 t347, .int .i64 t348, .int .i64 t349, .int .i64 t350, .int .i64 t351]] (by rfl) rfl rfl mpx10 ?_
        with_reducible refine (laws_eqJob.calls kj26 _ _ t308 _ _ t311 _ _ t314 t317 t318 t319 t320 t321 _ _ t338 _ _ t341 _ _ t344 t347 t348 t349 t350 t351 true _ ?side1 ?side2 ?side3 ?side4 ?side5 ?side6 ?side7 ?side8 ?side9 ?side10 ?side11 ?side12 A72.out).mono ?_
        (case side1 => repeat (first | exact (Kd.S_reads' HO_323000.out).2.2 | (with_reducible refine Kd.C_alloc ?_ _) | (with_reducible refine Kd.C_drewN ?_ _) | (with_reducible refine Kd.C_drew ?_)))
        (case side2 => exact (Kd.S_reads' HO_323000.out).2.1)
        (case side3 => exact cRx10 HO_323001.out)
        (case side4 => exact (Kd.R_reads' HO_323001.out).2.1)
        (case side5 => exact cRx10 HO_323002.out)
        (case side6 => exact (Kd.R_reads' HO_323002.out).2.1)
        (case side7 => repeat (first | exact (Kd.S_reads' HO340.out).2.2 | (with_reducible refine Kd.C_alloc ?_ _) | (with_reducible refine Kd.C_drewN ?_ _) | (with_reducible refine Kd.C_drew ?_)))
        (case side8 => exact (Kd.S_reads' HO340.out).2.1)
        (case side9 => exact cRx10 HO343.out)
        (case side10 => exact (Kd.R_reads' HO343.out).2.1)
        (case side11 => exact cRx10 HO346.out)
        (case side12 => exact (Kd.R_reads' HO346.out).2.1)
        rintro e w85 ⟨rfl, hb⟩
        refine ⟨_, rfl, ?_⟩
        have n0_ := Aside0.mk (Kd.R_below (rRx10 HO_308003.out) hb)
        have n1_ := Aside0.mk (Kd.R_below (rRx10 HO_308004.out) hb)
        have n2_ := Aside0.mk (Kd.R_below (rRx10 HO_308005.out) hb)
        have n3_ := Aside0.mk (Kd.S_below (rSx10 HO_323000.out) hb)
        have n4_ := Aside0.mk (Kd.R_below (rRx10 HO_323001.out) hb)
        have n5_ := Aside0.mk (Kd.R_below (rRx10 HO_323002.out) hb)
        have n6_ := Aside0.mk (Kd.R_below (rRx10 HO330.out) hb)
        have n7_ := Aside0.mk (Kd.R_below (rRx10 HO333.out) hb)
        have n8_ := Aside0.mk (Kd.R_below (rRx10 HO336.out) hb)
        have n9_ := Aside0.mk (Kd.S_below (rSx10 HO340.out) hb)
        have n10_ := Aside0.mk (Kd.R_below (rRx10 HO343.out) hb)
        have n11_ := Aside0.mk (Kd.R_below (rRx10 HO346.out) hb)
        have n12_ := Aside0.mk (blk_below (g := gb263) (o := .cells #[.int .i64 a0_0, .int .i64 a0_1, .int .i64 a0_2, .slice A0_3 l0_3.length c0_3, .slice A0_4 l0_4.length c0_4, .slice A0_5 l0_5.length c0_5] 26 (0, 0)) (rBx10 BK263.out) hb)
        have n13_ := Aside0.mk (blk_below (g := gb264) (o := .cells #[.slice A1_0 l1_0.length c1_0, .slice A1_1 l1_1.length c1_1, .slice A1_2 l1_2.length c1_2, .int .i64 a1_3, .int .i64 a1_4, .int .i64 a1_5, .int .i64 a1_6, .int .i64 a1_7] 31 (0, 0)) (rBx10 BK264.out) hb)
        have n14_ := Aside0.mk (blk_below (g := gb307) (o := .cells #[.int .i64 t295, .int .i64 t296, .int .i64 t297, .slice Ao51 t298.length co51, .slice Ao52 t301.length co52, .slice Ao53 t304.length co53] 41 (0, 0)) (rBx10 BK307.out) hb)
        have n15_ := Aside0.mk (blk_below (g := gb322) (o := .cells #[.slice Ao57 t308.length co57, .slice Ao62 t311.length co62, .slice Ao63 t314.length co63, .int .i64 t317, .int .i64 t318, .int .i64 t319, .int .i64 t320, .int .i64 t321] 45 (0, 0)) (rBx10 BK322.out) hb)
        have n16_ := Aside0.mk (below_step (be4x10 HB.out GE263.out GE264.out GE307.out GE322.out) hb)
        clear HO_308003
        clear HO_308004
        clear HO_308005
        clear HO_323000
        clear HO_323001
        clear HO_323002
        clear HO330
        clear HO333
        clear HO336
        clear HO340
        clear HO343
        clear HO346
        clear BK263
        clear BK264
        clear BK307
        clear BK322
        clear HB
        have HO_308003 := n0_
        have HO_308004 := n1_
        have HO_308005 := n2_
        have HO_323000 := n3_
        have HO_323001 := n4_
        have HO_323002 := n5_
        have HO330 := n6_
        have HO333 := n7_
        have HO336 := n8_
        have HO340 := n9_
        have HO343 := n10_
        have HO346 := n11_
        have BK263 := n12_
        have BK264 := n13_
        have BK307 := n14_
        have BK322 := n15_
        have HB := n16_
        clear n0_ n1_ n2_ n3_ n4_ n5_ n6_ n7_ n8_ n9_ n10_ n11_ n12_ n13_ n14_ n15_ n16_
        (try clear hb)
        (try clear hb2)
        (try clear hk)
        (try clear hi)
        refine hK.out _ _ (ca8x10 BK322.out (cc8x10 BK264.out)) (fun hHeld => ?_)
        clear hK K
        refine norm_ (a' := ?_) ?_ ?_
        rotate_left
        ·show Act.put _ (some 64) _ = _
         simp only [Act.put, List.setIfInBounds_toArray, List.set_cons_zero, List.set_cons_succ, i64_w, i32_w]
         rfl
        refine pure_ (i := 4) (N := some 65) (v := ?_) (a' := ?_) #[true, true, true, true, true] rfl rfl (by kernel_rfl) (fun _ _ _ h => h) (Or.inl ⟨by rfl, ?_⟩) ?_ ?_
        rotate_left
        ·intro w'
         go_simp
         with_reducible rfl
        rotate_left
        ·simp only [Act.put, List.setIfInBounds_toArray, List.set_cons_zero, List.set_cons_succ, i64_w, i32_w]
         rfl
        refine done_ (by kernel_rfl) ?_
        try go_wp2
        go_ret
        exact ⟨by first | rfl | (simp [errW_none, errW_some] <;> rfl) | (simp [*, errW_none, errW_some] <;> rfl), be4x10 HB.out GE263.out GE264.out GE307.out GE322.out⟩
       ·replace c73 := Bool.eq_false_iff.mpr c73
        subst c73
        have H1 : (some false) = some r := by rw [if_neg (show ¬ (false = true) by decide)] at H; exact H
        clear H
        have H := H1
        clear H1
        obtain rfl := Option.some.inj H
        try go_wp2
        have n0_ := Aside0.mk (Kd.R_drew HO_308003.out)
        have n1_ := Aside0.mk (Kd.R_drew HO_308004.out)
        have n2_ := Aside0.mk (Kd.R_drew HO_308005.out)
        have n3_ := Aside0.mk (Kd.S_drew HO_323000.out)
        have n4_ := Aside0.mk (Kd.R_drew HO_323001.out)
        have n5_ := Aside0.mk (Kd.R_drew HO_323002.out)
        have n6_ := Aside0.mk (blk_drew BK263.out)
        have n7_ := Aside0.mk (blk_drew BK264.out)
        have n8_ := Aside0.mk (blk_drew BK307.out)
        have n9_ := Aside0.mk (blk_drew BK322.out)
        have n10_ := Aside0.mk (below_drew1 HB.out)
        clear HO_308003
        clear HO_308004
        clear HO_308005
        clear HO_323000
        clear HO_323001
        clear HO_323002
        clear BK263
        clear BK264
        clear BK307
        clear BK322
        clear HB
        have HO_308003 := n0_
        have HO_308004 := n1_
        have HO_308005 := n2_
        have HO_323000 := n3_
        have HO_323001 := n4_
        have HO_323002 := n5_
        have BK263 := n6_
        have BK264 := n7_
        have BK307 := n8_
        have BK322 := n9_
        have HB := n10_
        clear n0_ n1_ n2_ n3_ n4_ n5_ n6_ n7_ n8_ n9_ n10_
        refine start_ (n := 5) (S := fun w' => w'.cell? ⟨gb307, 0, none⟩ = some (.int .i64 t295) ∧ w'.cell? ⟨gb307, 1, none⟩ = some (.int .i64 t296) ∧ w'.cell? ⟨gb307, 2, none⟩ = some (.int .i64 t297) ∧ w'.cell? ⟨gb307, 3, none⟩ = some (.slice Ao51 t298.length co51) ∧ w'.cell? ⟨gb307, 4, none⟩ = some (.slice Ao52 t301.length co52) ∧ w'.cell? ⟨gb307, 5, none⟩ = some (.slice Ao53 t304.length co53) ∧ w'.cell? ⟨gb263, 0, none⟩ = some (.int .i64 a0_0) ∧ w'.cell? ⟨gb263, 1, none⟩ = some (.int .i64 a0_1) ∧ w'.cell? ⟨gb263, 2, none⟩ = some (.int .i64 a0_2) ∧ w'.cell? ⟨gb263, 3, none⟩ = some (.slice A0_3 l0_3.length c0_3) ∧ w'.cell? ⟨gb263, 4, none⟩ = some (.slice A0_4 l0_4.length c0_4) ∧ w'.cell? ⟨gb263, 5, none⟩ = some (.slice A0_5 l0_5.length c0_5)) (ds := []) #[false, false, false, false, false] (by kernel_rfl) rfl rfl (ca6x10 BK307.out (cc6x10 BK263.out)) (fun hHeld => ?_)
        generalize wc.drew = w86 at HO_308003 HO_308004 HO_308005 HO_323000 HO_323001 HO_323002 BK263 BK264 BK307 BK322 HB hHeld ⊢
        refine take_ (i := 0) (N := some 56) (v := ?_) (a' := ?_) #[true, false, false, false, false] rfl rfl (by kernel_rfl) (fun _ _ _ h => h) (Or.inl ⟨by rfl, ?_⟩) hHeld ?_ ?_
        rotate_left
        ·rintro w' ⟨s0, s1, s2, s3, s4, s5, s6, s7, s8, s9, s10, s11⟩
         go_simp
         with_reducible rfl
        rotate_left
        ·simp only [Act.put, List.setIfInBounds_toArray, List.set_cons_zero, List.set_cons_succ, i64_w, i32_w]
         rfl
        refine take_ (i := 1) (N := some 57) (v := ?_) (a' := ?_) #[true, true, false, false, false] rfl rfl (by kernel_rfl) (fun _ _ _ h => h) (Or.inl ⟨by rfl, ?_⟩) hHeld ?_ ?_
        rotate_left
        ·rintro w' ⟨s0, s1, s2, s3, s4, s5, s6, s7, s8, s9, s10, s11⟩
         go_simp
         with_reducible rfl
        rotate_left
        ·simp only [Act.put, List.setIfInBounds_toArray, List.set_cons_zero, List.set_cons_succ, i64_w, i32_w]
         rfl
        refine one_ (i := 2) (N := some 58) #[true, true, true, false, false] rfl rfl (by kernel_rfl) (by decide) (fun K hK => ?_)
        refine goes_ Try.func19 (by kernel_rfl) rfl #[.agg #[.int .i64 a0_0, .int .i64 a0_1, .int .i64 a0_2, .slice A0_3 l0_3.length c0_3, .slice A0_4 l0_4.length c0_4, .slice A0_5 l0_5.length c0_5]] (by rfl) rfl rfl mpx10 ?_
        with_reducible refine (laws_toModel.calls kj26 a0_0 a0_1 a0_2 _ _ l0_3 _ _ l0_4 _ _ l0_5 t325 t326 t327 t328 t331 t334 _ ?side1 ?side2 ?side3 ?side4 ?side5 ?side6 A68.out).mono ?_
        (case side1 => exact rCx10 (Kd.C_below HR0_3.out HB.out))
        (case side2 => exact HC0_3.out)
        (case side3 => exact rCx10 (Kd.C_below HR0_4.out HB.out))
        (case side4 => exact HC0_4.out)
        (case side5 => exact rCx10 (Kd.C_below HR0_5.out HB.out))
        (case side6 => exact HC0_5.out)
        rintro e w87 ⟨v329, v332, v335, rfl, ho0, ho1, ho2, hb⟩
        refine ⟨_, rfl, ?_⟩
        have n0_ := Aside0.mk (kp3x10 (rRx10 HO_308003.out) hb ho0 ho1 ho2)
        have n1_ := Aside0.mk (kp3x10 (rRx10 HO_308004.out) hb ho0 ho1 ho2)
        have n2_ := Aside0.mk (kp3x10 (rRx10 HO_308005.out) hb ho0 ho1 ho2)
        have n3_ := Aside0.mk (Kd.S_mono (Kd.S_told (Kd.S_told (Kd.S_told (Kd.S_old (rSx10 HO_323000.out) hb) (Kd.R_base ho0)) (Kd.R_base ho1)) (Kd.R_base ho2)) (fun _ h_ => h_.1))
        have n4_ := Aside0.mk (kp3x10 (rRx10 HO_323001.out) hb ho0 ho1 ho2)
        have n5_ := Aside0.mk (kp3x10 (rRx10 HO_323002.out) hb ho0 ho1 ho2)
        have n6_ := Aside0.mk (Kd.R_lower (Kd.R_new' (Kd.R_new' (Kd.R_new' (Kd.R_new' (Kd.R_new' ho0 (Kd.R_lt (rRx10 HO_308003.out))) (Kd.R_lt (rRx10 HO_308004.out))) (Kd.R_lt (rRx10 HO_308005.out))) (Kd.R_lt (rRx10 HO_323001.out))) (Kd.R_lt (rRx10 HO_323002.out))) (below_size (be4x10 HB.out GE263.out GE264.out GE307.out GE322.out)))
        have n7_ := Aside0.mk (Kd.R_lower (Kd.R_new' (Kd.R_new' (Kd.R_new' (Kd.R_new' (Kd.R_new' ho1 (Kd.R_lt (rRx10 HO_308003.out))) (Kd.R_lt (rRx10 HO_308004.out))) (Kd.R_lt (rRx10 HO_308005.out))) (Kd.R_lt (rRx10 HO_323001.out))) (Kd.R_lt (rRx10 HO_323002.out))) (below_size (be4x10 HB.out GE263.out GE264.out GE307.out GE322.out)))
        have n8_ := Aside0.mk (Kd.R_lower (Kd.R_new' (Kd.R_new' (Kd.R_new' (Kd.R_new' (Kd.R_new' ho2 (Kd.R_lt (rRx10 HO_308003.out))) (Kd.R_lt (rRx10 HO_308004.out))) (Kd.R_lt (rRx10 HO_308005.out))) (Kd.R_lt (rRx10 HO_323001.out))) (Kd.R_lt (rRx10 HO_323002.out))) (below_size (be4x10 HB.out GE263.out GE264.out GE307.out GE322.out)))
        have n9_ := Aside0.mk (blk_below (g := gb263) (o := .cells #[.int .i64 a0_0, .int .i64 a0_1, .int .i64 a0_2, .slice A0_3 l0_3.length c0_3, .slice A0_4 l0_4.length c0_4, .slice A0_5 l0_5.length c0_5] 26 (0, 0)) (rBx10 BK263.out) hb)
        have n10_ := Aside0.mk (blk_below (g := gb264) (o := .cells #[.slice A1_0 l1_0.length c1_0, .slice A1_1 l1_1.length c1_1, .slice A1_2 l1_2.length c1_2, .int .i64 a1_3, .int .i64 a1_4, .int .i64 a1_5, .int .i64 a1_6, .int .i64 a1_7] 31 (0, 0)) (rBx10 BK264.out) hb)
        have n11_ := Aside0.mk (blk_below (g := gb307) (o := .cells #[.int .i64 t295, .int .i64 t296, .int .i64 t297, .slice Ao51 t298.length co51, .slice Ao52 t301.length co52, .slice Ao53 t304.length co53] 41 (0, 0)) (rBx10 BK307.out) hb)
        have n12_ := Aside0.mk (blk_below (g := gb322) (o := .cells #[.slice Ao57 t308.length co57, .slice Ao62 t311.length co62, .slice Ao63 t314.length co63, .int .i64 t317, .int .i64 t318, .int .i64 t319, .int .i64 t320, .int .i64 t321] 45 (0, 0)) (rBx10 BK322.out) hb)
        have n13_ := Aside0.mk (below_step (be4x10 HB.out GE263.out GE264.out GE307.out GE322.out) hb)
        clear HO_308003
        clear HO_308004
        clear HO_308005
        clear HO_323000
        clear HO_323001
        clear HO_323002
        clear BK263
        clear BK264
        clear BK307
        clear BK322
        clear HB
        have HO_308003 := n0_
        have HO_308004 := n1_
        have HO_308005 := n2_
        have HO_323000 := n3_
        have HO_323001 := n4_
        have HO_323002 := n5_
        have HO330 := n6_
        have HO333 := n7_
        have HO336 := n8_
        have BK263 := n9_
        have BK264 := n10_
        have BK307 := n11_
        have BK322 := n12_
        have HB := n13_
        clear n0_ n1_ n2_ n3_ n4_ n5_ n6_ n7_ n8_ n9_ n10_ n11_ n12_ n13_
        (try clear hb)
        (try clear hb2)
        (try clear hk)
        (try clear hi)
        (try clear ho0)
        (try clear ho1)
        (try clear ho2)
        obtain ⟨Ao88, co88, eo88⟩ := Kd.R_slice HO330.out
        (first | subst eo88 | (injection eo88 with f1_ f2_ f3_; have f4_ := f1_.symm; have f5_ := f3_.symm; clear f1_ f2_ f3_; subst f4_; subst f5_))
        obtain ⟨Ao89, co89, eo89⟩ := Kd.R_slice HO333.out
        (first | subst eo89 | (injection eo89 with f1_ f2_ f3_; have f4_ := f1_.symm; have f5_ := f3_.symm; clear f1_ f2_ f3_; subst f4_; subst f5_))
        obtain ⟨Ao90, co90, eo90⟩ := Kd.R_slice HO336.out
        (first | subst eo90 | (injection eo90 with f1_ f2_ f3_; have f4_ := f1_.symm; have f5_ := f3_.symm; clear f1_ f2_ f3_; subst f4_; subst f5_))
        refine hK.out _ _ (ca6x10 BK307.out (cc6x10 BK263.out)) (fun hHeld => ?_)
        clear hK K
        refine norm_ (a' := ?_) ?_ ?_
        rotate_left
        ·show Act.put _ (some 58) _ = _
         simp only [Act.put, List.setIfInBounds_toArray, List.set_cons_zero, List.set_cons_succ, i64_w, i32_w]
         rfl
        refine one_ (i := 3) (N := some 59) #[true, true, true, true, false] rfl rfl (by kernel_rfl) (by decide) (fun K hK => ?_)
        refine goes_ Try.func24 (by kernel_rfl) rfl #[.agg #[.int .i64 t295, .int .i64 t296, .int .i64 t297, .slice Ao51 t298.length co51, .slice Ao52 t301.length co52, .slice Ao53 t304.length co53], .agg #[.int .i64 t325, .int .i64 t326, .int .i64 t327, .slice Ao88 t328.length co88, .slice Ao89 t331.length co89, .slice Ao90 t334.length co90]] (by rfl) rfl rfl mpx10 ?_
        with_reducible refine (laws_eqModel.calls kj26 t295 t296 t297 _ _ t298 _ _ t301 _ _ t304 t325 t326 t327 _ _ t328 _ _ t331 _ _ t334 true _ ?side1 ?side2 ?side3 ?side4 ?side5 ?side6 ?side7 ?side8 ?side9 ?side10 ?side11 ?side12 A69.out).mono ?_
        (case side1 => exact cRx10 HO_308003.out)
        (case side2 => exact (Kd.R_reads' HO_308003.out).2.1)
        (case side3 => exact cRx10 HO_308004.out)
        (case side4 => exact (Kd.R_reads' HO_308004.out).2.1)
        (case side5 => exact cRx10 HO_308005.out)
        (case side6 => exact (Kd.R_reads' HO_308005.out).2.1)
        (case side7 => exact cRx10 HO330.out)
        (case side8 => exact (Kd.R_reads' HO330.out).2.1)
        (case side9 => exact cRx10 HO333.out)
        (case side10 => exact (Kd.R_reads' HO333.out).2.1)
        (case side11 => exact cRx10 HO336.out)
        (case side12 => exact (Kd.R_reads' HO336.out).2.1)
        rintro e w91 ⟨rfl, hb⟩
        refine ⟨_, rfl, ?_⟩
        have n0_ := Aside0.mk (Kd.R_below (rRx10 HO_308003.out) hb)
        have n1_ := Aside0.mk (Kd.R_below (rRx10 HO_308004.out) hb)
        have n2_ := Aside0.mk (Kd.R_below (rRx10 HO_308005.out) hb)
        have n3_ := Aside0.mk (Kd.S_below (rSx10 HO_323000.out) hb)
        have n4_ := Aside0.mk (Kd.R_below (rRx10 HO_323001.out) hb)
        have n5_ := Aside0.mk (Kd.R_below (rRx10 HO_323002.out) hb)
        have n6_ := Aside0.mk (Kd.R_below (rRx10 HO330.out) hb)
        have n7_ := Aside0.mk (Kd.R_below (rRx10 HO333.out) hb)
        have n8_ := Aside0.mk (Kd.R_below (rRx10 HO336.out) hb)
        have n9_ := Aside0.mk (blk_below (g := gb263) (o := .cells #[.int .i64 a0_0, .int .i64 a0_1, .int .i64 a0_2, .slice A0_3 l0_3.length c0_3, .slice A0_4 l0_4.length c0_4, .slice A0_5 l0_5.length c0_5] 26 (0, 0)) (rBx10 BK263.out) hb)
        have n10_ := Aside0.mk (blk_below (g := gb264) (o := .cells #[.slice A1_0 l1_0.length c1_0, .slice A1_1 l1_1.length c1_1, .slice A1_2 l1_2.length c1_2, .int .i64 a1_3, .int .i64 a1_4, .int .i64 a1_5, .int .i64 a1_6, .int .i64 a1_7] 31 (0, 0)) (rBx10 BK264.out) hb)
        have n11_ := Aside0.mk (blk_below (g := gb307) (o := .cells #[.int .i64 t295, .int .i64 t296, .int .i64 t297, .slice Ao51 t298.length co51, .slice Ao52 t301.length co52, .slice Ao53 t304.length co53] 41 (0, 0)) (rBx10 BK307.out) hb)
        have n12_ := Aside0.mk (blk_below (g := gb322) (o := .cells #[.slice Ao57 t308.length co57, .slice Ao62 t311.length co62, .slice Ao63 t314.length co63, .int .i64 t317, .int .i64 t318, .int .i64 t319, .int .i64 t320, .int .i64 t321] 45 (0, 0)) (rBx10 BK322.out) hb)
        have n13_ := Aside0.mk (below_step (be4x10 HB.out GE263.out GE264.out GE307.out GE322.out) hb)
        clear HO_308003
        clear HO_308004
        clear HO_308005
        clear HO_323000
        clear HO_323001
        clear HO_323002
        clear HO330
        clear HO333
        clear HO336
        clear BK263
        clear BK264
        clear BK307
        clear BK322
        clear HB
        have HO_308003 := n0_
        have HO_308004 := n1_
        have HO_308005 := n2_
        have HO_323000 := n3_
        have HO_323001 := n4_
        have HO_323002 := n5_
        have HO330 := n6_
        have HO333 := n7_
        have HO336 := n8_
        have BK263 := n9_
        have BK264 := n10_
        have BK307 := n11_
        have BK322 := n12_
        have HB := n13_
        clear n0_ n1_ n2_ n3_ n4_ n5_ n6_ n7_ n8_ n9_ n10_ n11_ n12_ n13_
        (try clear hb)
        (try clear hb2)
        (try clear hk)
        (try clear hi)
        refine hK.out _ _ (ca6x10 BK307.out (cc6x10 BK263.out)) (fun hHeld => ?_)
        clear hK K
        refine norm_ (a' := ?_) ?_ ?_
        rotate_left
        ·show Act.put _ (some 59) _ = _
         simp only [Act.put, List.setIfInBounds_toArray, List.set_cons_zero, List.set_cons_succ, i64_w, i32_w]
         rfl
        refine pure_ (i := 4) (N := some 60) (v := ?_) (a' := ?_) #[true, true, true, true, true] rfl rfl (by kernel_rfl) (fun _ _ _ h => h) (Or.inl ⟨by rfl, ?_⟩) ?_ ?_
        rotate_left
        ·intro w'
         go_simp
         with_reducible rfl
        rotate_left
        ·simp only [Act.put, List.setIfInBounds_toArray, List.set_cons_zero, List.set_cons_succ, i64_w, i32_w]
         rfl
        refine done_ (by kernel_rfl) ?_
        try go_wp2
        have n0_ := Aside0.mk (Kd.R_drew HO_308003.out)
        have n1_ := Aside0.mk (Kd.R_drew HO_308004.out)
        have n2_ := Aside0.mk (Kd.R_drew HO_308005.out)
        have n3_ := Aside0.mk (Kd.S_drew HO_323000.out)
        have n4_ := Aside0.mk (Kd.R_drew HO_323001.out)
        have n5_ := Aside0.mk (Kd.R_drew HO_323002.out)
        have n6_ := Aside0.mk (Kd.R_drew HO330.out)
        have n7_ := Aside0.mk (Kd.R_drew HO333.out)
        have n8_ := Aside0.mk (Kd.R_drew HO336.out)
        have n9_ := Aside0.mk (blk_drew BK263.out)
        have n10_ := Aside0.mk (blk_drew BK264.out)
        have n11_ := Aside0.mk (blk_drew BK307.out)
        have n12_ := Aside0.mk (blk_drew BK322.out)
        have n13_ := Aside0.mk (below_drew1 HB.out)
        clear HO_308003
        clear HO_308004
        clear HO_308005
        clear HO_323000
        clear HO_323001
        clear HO_323002
        clear HO330
        clear HO333
        clear HO336
        clear BK263
        clear BK264
        clear BK307
        clear BK322
        clear HB
        have HO_308003 := n0_
        have HO_308004 := n1_
        have HO_308005 := n2_
        have HO_323000 := n3_
        have HO_323001 := n4_
        have HO_323002 := n5_
        have HO330 := n6_
        have HO333 := n7_
        have HO336 := n8_
        have BK263 := n9_
        have BK264 := n10_
        have BK307 := n11_
        have BK322 := n12_
        have HB := n13_
        clear n0_ n1_ n2_ n3_ n4_ n5_ n6_ n7_ n8_ n9_ n10_ n11_ n12_ n13_
        refine start_ (n := 5) (S := fun w' => w'.cell? ⟨gb322, 0, none⟩ = some (.slice Ao57 t308.length co57) ∧ w'.cell? ⟨gb322, 1, none⟩ = some (.slice Ao62 t311.length co62) ∧ w'.cell? ⟨gb322, 2, none⟩ = some (.slice Ao63 t314.length co63) ∧ w'.cell? ⟨gb322, 3, none⟩ = some (.int .i64 t317) ∧ w'.cell? ⟨gb322, 4, none⟩ = some (.int .i64 t318) ∧ w'.cell? ⟨gb322, 5, none⟩ = some (.int .i64 t319) ∧ w'.cell? ⟨gb322, 6, none⟩ = some (.int .i64 t320) ∧ w'.cell? ⟨gb322, 7, none⟩ = some (.int .i64 t321) ∧ w'.cell? ⟨gb264, 0, none⟩ = some (.slice A1_0 l1_0.length c1_0) ∧ w'.cell? ⟨gb264, 1, none⟩ = some (.slice A1_1 l1_1.length c1_1) ∧ w'.cell? ⟨gb264, 2, none⟩ = some (.slice A1_2 l1_2.length c1_2) ∧ w'.cell? ⟨gb264, 3, none⟩ = some (.int .i64 a1_3) ∧ w'.cell? ⟨gb264, 4, none⟩ = some (.int .i64 a1_4) ∧ w'.cell? ⟨gb264, 5, none⟩ = some (.int .i64 a1_5) ∧ w'.cell? ⟨gb264, 6, none⟩ = some (.int .i64 a1_6) ∧ w'.cell? ⟨gb264, 7, none⟩ = some (.int .i64 a1_7)) (ds := []) #[false, false, false, false, false] (by kernel_rfl) rfl rfl (ca8x10 BK322.out (cc8x10 BK264.out)) (fun hHeld => ?_)
        generalize w91.drew = w92 at HO_308003 HO_308004 HO_308005 HO_323000 HO_323001 HO_323002 HO330 HO333 HO336 BK263 BK264 BK307 BK322 HB hHeld ⊢
        refine take_ (i := 0) (N := some 61) (v := ?_) (a' := ?_) #[true, false, false, false, false] rfl rfl (by kernel_rfl) (fun _ _ _ h => h) (Or.inl ⟨by rfl, ?_⟩) hHeld ?_ ?_
        rotate_left
        ·rintro w' ⟨s0, s1, s2, s3, s4, s5, s6, s7, s8, s9, s10, s11, s12, s13, s14, s15⟩
         go_simp
         with_reducible rfl
        rotate_left
        ·simp only [Act.put, List.setIfInBounds_toArray, List.set_cons_zero, List.set_cons_succ, i64_w, i32_w]
         rfl
        refine take_ (i := 1) (N := some 62) (v := ?_) (a' := ?_) #[true, true, false, false, false] rfl rfl (by kernel_rfl) (fun _ _ _ h => h) (Or.inl ⟨by rfl, ?_⟩) hHeld ?_ ?_
        rotate_left
        ·rintro w' ⟨s0, s1, s2, s3, s4, s5, s6, s7, s8, s9, s10, s11, s12, s13, s14, s15⟩
         go_simp
         with_reducible rfl
        rotate_left
        ·simp only [Act.put, List.setIfInBounds_toArray, List.set_cons_zero, List.set_cons_succ, i64_w, i32_w]
         rfl
        refine one_ (i := 2) (N := some 63) #[true, true, true, false, false] rfl rfl (by kernel_rfl) (by decide) (fun K hK => ?_)
        refine goes_ Try.func20 (by kernel_rfl) rfl #[.agg #[.slice A1_0 l1_0.length c1_0, .slice A1_1 l1_1.length c1_1, .slice A1_2 l1_2.length c1_2, .int .i64 a1_3, .int .i64 a1_4, .int .i64 a1_5, .int .i64 a1_6, .int .i64 a1_7]] (by rfl) rfl rfl mpx10 ?_
        with_reducible refine (laws_toJob.calls kj26 _ _ l1_0 _ _ l1_1 _ _ l1_2 a1_3 a1_4 a1_5 a1_6 a1_7 t338 t341 t344 t347 t348 t349 t350 t351 _ ?side1 ?side2 ?side3 ?side4 ?side5 ?side6 A71.out).mono ?_
        (case side1 => exact rCx10 (Kd.C_below HR1_0.out HB.out))
        (case side2 => exact HC1_0.out)
        (case side3 => exact rCx10 (Kd.C_below HR1_1.out HB.out))
        (case side4 => exact HC1_1.out)
        (case side5 => exact rCx10 (Kd.C_below HR1_2.out HB.out))
        (case side6 => exact HC1_2.out)
        rintro e w93 ⟨v339, v342, v345, rfl, ho0, ho1, ho2, hb⟩
        refine ⟨_, rfl, ?_⟩
        have n0_ := Aside0.mk (Kd.R_mono (Kd.R_told (Kd.R_told (Kd.R_old (rRx10 HO_308003.out) hb) (Kd.R_base ho1)) (Kd.R_base ho2)) (fun _ h_ => h_.1))
        have n1_ := Aside0.mk (Kd.R_mono (Kd.R_told (Kd.R_told (Kd.R_old (rRx10 HO_308004.out) hb) (Kd.R_base ho1)) (Kd.R_base ho2)) (fun _ h_ => h_.1))
        have n2_ := Aside0.mk (Kd.R_mono (Kd.R_told (Kd.R_told (Kd.R_old (rRx10 HO_308005.out) hb) (Kd.R_base ho1)) (Kd.R_base ho2)) (fun _ h_ => h_.1))
        have n3_ := Aside0.mk (Kd.S_mono (Kd.S_told (Kd.S_told (Kd.S_told (Kd.S_old (rSx10 HO_323000.out) hb) (Kd.S_base ho0)) (Kd.R_base ho1)) (Kd.R_base ho2)) (fun _ h_ => h_.1))
        have n4_ := Aside0.mk (Kd.R_mono (Kd.R_told (Kd.R_told (Kd.R_old (rRx10 HO_323001.out) hb) (Kd.R_base ho1)) (Kd.R_base ho2)) (fun _ h_ => h_.1))
        have n5_ := Aside0.mk (Kd.R_mono (Kd.R_told (Kd.R_told (Kd.R_old (rRx10 HO_323002.out) hb) (Kd.R_base ho1)) (Kd.R_base ho2)) (fun _ h_ => h_.1))
        have n6_ := Aside0.mk (Kd.R_mono (Kd.R_told (Kd.R_told (Kd.R_old (rRx10 HO330.out) hb) (Kd.R_base ho1)) (Kd.R_base ho2)) (fun _ h_ => h_.1))
        have n7_ := Aside0.mk (Kd.R_mono (Kd.R_told (Kd.R_told (Kd.R_old (rRx10 HO333.out) hb) (Kd.R_base ho1)) (Kd.R_base ho2)) (fun _ h_ => h_.1))
        have n8_ := Aside0.mk (Kd.R_mono (Kd.R_told (Kd.R_told (Kd.R_old (rRx10 HO336.out) hb) (Kd.R_base ho1)) (Kd.R_base ho2)) (fun _ h_ => h_.1))
        have n9_ := Aside0.mk (Kd.S_lower (Kd.S_new' (Kd.S_new' (Kd.S_new' (Kd.S_new' (Kd.S_new' (Kd.S_new' (Kd.S_new' (Kd.S_new' (Kd.S_new' ho0 (Kd.R_lt (rRx10 HO_308003.out))) (Kd.R_lt (rRx10 HO_308004.out))) (Kd.R_lt (rRx10 HO_308005.out))) (Kd.S_lt (rSx10 HO_323000.out))) (Kd.R_lt (rRx10 HO_323001.out))) (Kd.R_lt (rRx10 HO_323002.out))) (Kd.R_lt (rRx10 HO330.out))) (Kd.R_lt (rRx10 HO333.out))) (Kd.R_lt (rRx10 HO336.out))) (below_size (be4x10 HB.out GE263.out GE264.out GE307.out GE322.out)))
        have n10_ := Aside0.mk (Kd.R_lower (Kd.R_new' (Kd.R_new' (Kd.R_new' (Kd.R_new' (Kd.R_new' (Kd.R_new' (Kd.R_new' (Kd.R_new' ho1 (Kd.R_lt (rRx10 HO_308003.out))) (Kd.R_lt (rRx10 HO_308004.out))) (Kd.R_lt (rRx10 HO_308005.out))) (Kd.R_lt (rRx10 HO_323001.out))) (Kd.R_lt (rRx10 HO_323002.out))) (Kd.R_lt (rRx10 HO330.out))) (Kd.R_lt (rRx10 HO333.out))) (Kd.R_lt (rRx10 HO336.out))) (below_size (be4x10 HB.out GE263.out GE264.out GE307.out GE322.out)))
        have n11_ := Aside0.mk (Kd.R_lower (Kd.R_new' (Kd.R_new' (Kd.R_new' (Kd.R_new' (Kd.R_new' (Kd.R_new' (Kd.R_new' (Kd.R_new' ho2 (Kd.R_lt (rRx10 HO_308003.out))) (Kd.R_lt (rRx10 HO_308004.out))) (Kd.R_lt (rRx10 HO_308005.out))) (Kd.R_lt (rRx10 HO_323001.out))) (Kd.R_lt (rRx10 HO_323002.out))) (Kd.R_lt (rRx10 HO330.out))) (Kd.R_lt (rRx10 HO333.out))) (Kd.R_lt (rRx10 HO336.out))) (below_size (be4x10 HB.out GE263.out GE264.out GE307.out GE322.out)))
        have n12_ := Aside0.mk (blk_below (g := gb263) (o := .cells #[.int .i64 a0_0, .int .i64 a0_1, .int .i64 a0_2, .slice A0_3 l0_3.length c0_3, .slice A0_4 l0_4.length c0_4, .slice A0_5 l0_5.length c0_5] 26 (0, 0)) (rBx10 BK263.out) hb)
        have n13_ := Aside0.mk (blk_below (g := gb264) (o := .cells #[.slice A1_0 l1_0.length c1_0, .slice A1_1 l1_1.length c1_1, .slice A1_2 l1_2.length c1_2, .int .i64 a1_3, .int .i64 a1_4, .int .i64 a1_5, .int .i64 a1_6, .int .i64 a1_7] 31 (0, 0)) (rBx10 BK264.out) hb)
        have n14_ := Aside0.mk (blk_below (g := gb307) (o := .cells #[.int .i64 t295, .int .i64 t296, .int .i64 t297, .slice Ao51 t298.length co51, .slice Ao52 t301.length co52, .slice Ao53 t304.length co53] 41 (0, 0)) (rBx10 BK307.out) hb)
        have n15_ := Aside0.mk (blk_below (g := gb322) (o := .cells #[.slice Ao57 t308.length co57, .slice Ao62 t311.length co62, .slice Ao63 t314.length co63, .int .i64 t317, .int .i64 t318, .int .i64 t319, .int .i64 t320, .int .i64 t321] 45 (0, 0)) (rBx10 BK322.out) hb)
        have n16_ := Aside0.mk (below_step (be4x10 HB.out GE263.out GE264.out GE307.out GE322.out) hb)
        clear HO_308003
        clear HO_308004
        clear HO_308005
        clear HO_323000
        clear HO_323001
        clear HO_323002
        clear HO330
        clear HO333
        clear HO336
        clear BK263
        clear BK264
        clear BK307
        clear BK322
        clear HB
        have HO_308003 := n0_
        have HO_308004 := n1_
        have HO_308005 := n2_
        have HO_323000 := n3_
        have HO_323001 := n4_
        have HO_323002 := n5_
        have HO330 := n6_
        have HO333 := n7_
        have HO336 := n8_
        have HO340 := n9_
        have HO343 := n10_
        have HO346 := n11_
        have BK263 := n12_
        have BK264 := n13_
        have BK307 := n14_
        have BK322 := n15_
        have HB := n16_
        clear n0_ n1_ n2_ n3_ n4_ n5_ n6_ n7_ n8_ n9_ n10_ n11_ n12_ n13_ n14_ n15_ n16_
        (try clear hb)
        (try clear hb2)
        (try clear hk)
        (try clear hi)
        (try clear ho0)
        (try clear ho1)
        (try clear ho2)
        obtain ⟨Ao94, co94, eo94⟩ := Kd.S_slice HO340.out
        (first | subst eo94 | (injection eo94 with f1_ f2_ f3_; have f4_ := f1_.symm; have f5_ := f3_.symm; clear f1_ f2_ f3_; subst f4_; subst f5_))
        obtain ⟨Ao95, co95, eo95⟩ := Kd.R_slice HO343.out
        (first | subst eo95 | (injection eo95 with f1_ f2_ f3_; have f4_ := f1_.symm; have f5_ := f3_.symm; clear f1_ f2_ f3_; subst f4_; subst f5_))
        obtain ⟨Ao96, co96, eo96⟩ := Kd.R_slice HO346.out
        (first | subst eo96 | (injection eo96 with f1_ f2_ f3_; have f4_ := f1_.symm; have f5_ := f3_.symm; clear f1_ f2_ f3_; subst f4_; subst f5_))
        refine hK.out _ _ (ca8x10 BK322.out (cc8x10 BK264.out)) (fun hHeld => ?_)
        clear hK K
        refine norm_ (a' := ?_) ?_ ?_
        rotate_left
        ·show Act.put _ (some 63) _ = _
         simp only [Act.put, List.setIfInBounds_toArray, List.set_cons_zero, List.set_cons_succ, i64_w, i32_w]
         rfl
        refine one_ (i := 3) (N := some 64) #[true, true, true, true, false] rfl rfl (by kernel_rfl) (by decide) (fun K hK => ?_)
        refine goes_ Try.func25 (by kernel_rfl) rfl #[.agg #[.slice Ao57 t308.length co57, .slice Ao62 t311.length co62, .slice Ao63 t314.length co63, .int .i64 t317, .int .i64 t318, .int .i64 t319, .int .i64 t320, .int .i64 t321], .agg #[.slice Ao94 t338.length co94, .slice Ao95 t341.length co95, .slice Ao96 t344.length co96, .int .i64 t347, .int .i64 t348, .int .i64 t349, .int .i64 t350, .int .i64 t351]] (by rfl) rfl rfl mpx10 ?_
        with_reducible refine (laws_eqJob.calls kj26 _ _ t308 _ _ t311 _ _ t314 t317 t318 t319 t320 t321 _ _ t338 _ _ t341 _ _ t344 t347 t348 t349 t350 t351 false _ ?side1 ?side2 ?side3 ?side4 ?side5 ?side6 ?side7 ?side8 ?side9 ?side10 ?side11 ?side12 A72.out).mono ?_
        (case side1 => repeat (first | exact (Kd.S_reads' HO_323000.out).2.2 | (with_reducible refine Kd.C_alloc ?_ _) | (with_reducible refine Kd.C_drewN ?_ _) | (with_reducible refine Kd.C_drew ?_)))
        (case side2 => exact (Kd.S_reads' HO_323000.out).2.1)
        (case side3 => exact cRx10 HO_323001.out)
        (case side4 => exact (Kd.R_reads' HO_323001.out).2.1)
        (case side5 => exact cRx10 HO_323002.out)
        (case side6 => exact (Kd.R_reads' HO_323002.out).2.1)
        (case side7 => repeat (first | exact (Kd.S_reads' HO340.out).2.2 | (with_reducible refine Kd.C_alloc ?_ _) | (with_reducible refine Kd.C_drewN ?_ _) | (with_reducible refine Kd.C_drew ?_)))
        (case side8 => exact (Kd.S_reads' HO340.out).2.1)
        (case side9 => exact cRx10 HO343.out)
        (case side10 => exact (Kd.R_reads' HO343.out).2.1)
        (case side11 => exact cRx10 HO346.out)
        (case side12 => exact (Kd.R_reads' HO346.out).2.1)
        rintro e w97 ⟨rfl, hb⟩
        refine ⟨_, rfl, ?_⟩
        have n0_ := Aside0.mk (Kd.R_below (rRx10 HO_308003.out) hb)
        have n1_ := Aside0.mk (Kd.R_below (rRx10 HO_308004.out) hb)
        have n2_ := Aside0.mk (Kd.R_below (rRx10 HO_308005.out) hb)
        have n3_ := Aside0.mk (Kd.S_below (rSx10 HO_323000.out) hb)
        have n4_ := Aside0.mk (Kd.R_below (rRx10 HO_323001.out) hb)
        have n5_ := Aside0.mk (Kd.R_below (rRx10 HO_323002.out) hb)
        have n6_ := Aside0.mk (Kd.R_below (rRx10 HO330.out) hb)
        have n7_ := Aside0.mk (Kd.R_below (rRx10 HO333.out) hb)
        have n8_ := Aside0.mk (Kd.R_below (rRx10 HO336.out) hb)
        have n9_ := Aside0.mk (Kd.S_below (rSx10 HO340.out) hb)
        have n10_ := Aside0.mk (Kd.R_below (rRx10 HO343.out) hb)
        have n11_ := Aside0.mk (Kd.R_below (rRx10 HO346.out) hb)
        have n12_ := Aside0.mk (blk_below (g := gb263) (o := .cells #[.int .i64 a0_0, .int .i64 a0_1, .int .i64 a0_2, .slice A0_3 l0_3.length c0_3, .slice A0_4 l0_4.length c0_4, .slice A0_5 l0_5.length c0_5] 26 (0, 0)) (rBx10 BK263.out) hb)
        have n13_ := Aside0.mk (blk_below (g := gb264) (o := .cells #[.slice A1_0 l1_0.length c1_0, .slice A1_1 l1_1.length c1_1, .slice A1_2 l1_2.length c1_2, .int .i64 a1_3, .int .i64 a1_4, .int .i64 a1_5, .int .i64 a1_6, .int .i64 a1_7] 31 (0, 0)) (rBx10 BK264.out) hb)
        have n14_ := Aside0.mk (blk_below (g := gb307) (o := .cells #[.int .i64 t295, .int .i64 t296, .int .i64 t297, .slice Ao51 t298.length co51, .slice Ao52 t301.length co52, .slice Ao53 t304.length co53] 41 (0, 0)) (rBx10 BK307.out) hb)
        have n15_ := Aside0.mk (blk_below (g := gb322) (o := .cells #[.slice Ao57 t308.length co57, .slice Ao62 t311.length co62, .slice Ao63 t314.length co63, .int .i64 t317, .int .i64 t318, .int .i64 t319, .int .i64 t320, .int .i64 t321] 45 (0, 0)) (rBx10 BK322.out) hb)
        have n16_ := Aside0.mk (below_step (be4x10 HB.out GE263.out GE264.out GE307.out GE322.out) hb)
        clear HO_308003
        clear HO_308004
        clear HO_308005
        clear HO_323000
        clear HO_323001
        clear HO_323002
        clear HO330
        clear HO333
        clear HO336
        clear HO340
        clear HO343
        clear HO346
        clear BK263
        clear BK264
        clear BK307
        clear BK322
        clear HB
        have HO_308003 := n0_
        have HO_308004 := n1_
        have HO_308005 := n2_
        have HO_323000 := n3_
        have HO_323001 := n4_
        have HO_323002 := n5_
        have HO330 := n6_
        have HO333 := n7_
        have HO336 := n8_
        have HO340 := n9_
        have HO343 := n10_
        have HO346 := n11_
        have BK263 := n12_
        have BK264 := n13_
        have BK307 := n14_
        have BK322 := n15_
        have HB := n16_
        clear n0_ n1_ n2_ n3_ n4_ n5_ n6_ n7_ n8_ n9_ n10_ n11_ n12_ n13_ n14_ n15_ n16_
        (try clear hb)
        (try clear hb2)
        (try clear hk)
        (try clear hi)
        refine hK.out _ _ (ca8x10 BK322.out (cc8x10 BK264.out)) (fun hHeld => ?_)
        clear hK K
        refine norm_ (a' := ?_) ?_ ?_
        rotate_left
        ·show Act.put _ (some 64) _ = _
         simp only [Act.put, List.setIfInBounds_toArray, List.set_cons_zero, List.set_cons_succ, i64_w, i32_w]
         rfl
        refine pure_ (i := 4) (N := some 65) (v := ?_) (a' := ?_) #[true, true, true, true, true] rfl rfl (by kernel_rfl) (fun _ _ _ h => h) (Or.inl ⟨by rfl, ?_⟩) ?_ ?_
        rotate_left
        ·intro w'
         go_simp
         with_reducible rfl
        rotate_left
        ·simp only [Act.put, List.setIfInBounds_toArray, List.set_cons_zero, List.set_cons_succ, i64_w, i32_w]
         rfl
        refine done_ (by kernel_rfl) ?_
        try go_wp2
        go_ret
        exact ⟨by first | rfl | (simp [errW_none, errW_some] <;> rfl) | (simp [*, errW_none, errW_some] <;> rfl), be4x10 HB.out GE263.out GE264.out GE307.out GE322.out⟩
      ·replace c70 := Bool.eq_false_iff.mpr c70
       subst c70
       have H1 : (some false) = some r := by rw [if_neg (show ¬ (false = true) by decide)] at H; exact H
       clear H
       have H := H1
       clear H1
       obtain rfl := Option.some.inj H
       try go_wp2
       have n0_ := Aside0.mk (Kd.R_drew HO_308003.out)
       have n1_ := Aside0.mk (Kd.R_drew HO_308004.out)
       have n2_ := Aside0.mk (Kd.R_drew HO_308005.out)
       have n3_ := Aside0.mk (Kd.S_drew HO_323000.out)
       have n4_ := Aside0.mk (Kd.R_drew HO_323001.out)
       have n5_ := Aside0.mk (Kd.R_drew HO_323002.out)
       have n6_ := Aside0.mk (blk_drew BK263.out)
       have n7_ := Aside0.mk (blk_drew BK264.out)
       have n8_ := Aside0.mk (blk_drew BK307.out)
       have n9_ := Aside0.mk (blk_drew BK322.out)
       have n10_ := Aside0.mk (below_drew1 HB.out)
       clear HO_308003
       clear HO_308004
       clear HO_308005
       clear HO_323000
       clear HO_323001
       clear HO_323002
       clear BK263
       clear BK264
       clear BK307
       clear BK322
       clear HB
       have HO_308003 := n0_
       have HO_308004 := n1_
       have HO_308005 := n2_
       have HO_323000 := n3_
       have HO_323001 := n4_
       have HO_323002 := n5_
       have BK263 := n6_
       have BK264 := n7_
       have BK307 := n8_
       have BK322 := n9_
       have HB := n10_
       clear n0_ n1_ n2_ n3_ n4_ n5_ n6_ n7_ n8_ n9_ n10_
       refine start_ (n := 5) (S := fun w' => w'.cell? ⟨gb307, 0, none⟩ = some (.int .i64 t295) ∧ w'.cell? ⟨gb307, 1, none⟩ = some (.int .i64 t296) ∧ w'.cell? ⟨gb307, 2, none⟩ = some (.int .i64 t297) ∧ w'.cell? ⟨gb307, 3, none⟩ = some (.slice Ao51 t298.length co51) ∧ w'.cell? ⟨gb307, 4, none⟩ = some (.slice Ao52 t301.length co52) ∧ w'.cell? ⟨gb307, 5, none⟩ = some (.slice Ao53 t304.length co53) ∧ w'.cell? ⟨gb263, 0, none⟩ = some (.int .i64 a0_0) ∧ w'.cell? ⟨gb263, 1, none⟩ = some (.int .i64 a0_1) ∧ w'.cell? ⟨gb263, 2, none⟩ = some (.int .i64 a0_2) ∧ w'.cell? ⟨gb263, 3, none⟩ = some (.slice A0_3 l0_3.length c0_3) ∧ w'.cell? ⟨gb263, 4, none⟩ = some (.slice A0_4 l0_4.length c0_4) ∧ w'.cell? ⟨gb263, 5, none⟩ = some (.slice A0_5 l0_5.length c0_5)) (ds := []) #[false, false, false, false, false] (by kernel_rfl) rfl rfl (ca6x10 BK307.out (cc6x10 BK263.out)) (fun hHeld => ?_)
       generalize wc.drew = w98 at HO_308003 HO_308004 HO_308005 HO_323000 HO_323001 HO_323002 BK263 BK264 BK307 BK322 HB hHeld ⊢
       refine take_ (i := 0) (N := some 56) (v := ?_) (a' := ?_) #[true, false, false, false, false] rfl rfl (by kernel_rfl) (fun _ _ _ h => h) (Or.inl ⟨by rfl, ?_⟩) hHeld ?_ ?_
       rotate_left
       ·rintro w' ⟨s0, s1, s2, s3, s4, s5, s6, s7, s8, s9, s10, s11⟩
        go_simp
        with_reducible rfl
       rotate_left
       ·simp only [Act.put, List.setIfInBounds_toArray, List.set_cons_zero, List.set_cons_succ, i64_w, i32_w]
        rfl
       refine take_ (i := 1) (N := some 57) (v := ?_) (a' := ?_) #[true, true, false, false, false] rfl rfl (by kernel_rfl) (fun _ _ _ h => h) (Or.inl ⟨by rfl, ?_⟩) hHeld ?_ ?_
       rotate_left
       ·rintro w' ⟨s0, s1, s2, s3, s4, s5, s6, s7, s8, s9, s10, s11⟩
        go_simp
        with_reducible rfl
       rotate_left
       ·simp only [Act.put, List.setIfInBounds_toArray, List.set_cons_zero, List.set_cons_succ, i64_w, i32_w]
        rfl
       refine one_ (i := 2) (N := some 58) #[true, true, true, false, false] rfl rfl (by kernel_rfl) (by decide) (fun K hK => ?_)
       refine goes_ Try.func19 (by kernel_rfl) rfl #[.agg #[.int .i64 a0_0, .int .i64 a0_1, .int .i64 a0_2, .slice A0_3 l0_3.length c0_3, .slice A0_4 l0_4.length c0_4, .slice A0_5 l0_5.length c0_5]] (by rfl) rfl rfl mpx10 ?_
       with_reducible refine (laws_toModel.calls kj26 a0_0 a0_1 a0_2 _ _ l0_3 _ _ l0_4 _ _ l0_5 t325 t326 t327 t328 t331 t334 _ ?side1 ?side2 ?side3 ?side4 ?side5 ?side6 A68.out).mono ?_
       (case side1 => exact rCx10 (Kd.C_below HR0_3.out HB.out))
       (case side2 => exact HC0_3.out)
       (case side3 => exact rCx10 (Kd.C_below HR0_4.out HB.out))
       (case side4 => exact HC0_4.out)
       (case side5 => exact rCx10 (Kd.C_below HR0_5.out HB.out))
       (case side6 => exact HC0_5.out)
       rintro e w99 ⟨v329, v332, v335, rfl, ho0, ho1, ho2, hb⟩
       refine ⟨_, rfl, ?_⟩
       have n0_ := Aside0.mk (kp3x10 (rRx10 HO_308003.out) hb ho0 ho1 ho2)
       have n1_ := Aside0.mk (kp3x10 (rRx10 HO_308004.out) hb ho0 ho1 ho2)
       have n2_ := Aside0.mk (kp3x10 (rRx10 HO_308005.out) hb ho0 ho1 ho2)
       have n3_ := Aside0.mk (Kd.S_mono (Kd.S_told (Kd.S_told (Kd.S_told (Kd.S_old (rSx10 HO_323000.out) hb) (Kd.R_base ho0)) (Kd.R_base ho1)) (Kd.R_base ho2)) (fun _ h_ => h_.1))
       have n4_ := Aside0.mk (kp3x10 (rRx10 HO_323001.out) hb ho0 ho1 ho2)
       have n5_ := Aside0.mk (kp3x10 (rRx10 HO_323002.out) hb ho0 ho1 ho2)
       have n6_ := Aside0.mk (Kd.R_lower (Kd.R_new' (Kd.R_new' (Kd.R_new' (Kd.R_new' (Kd.R_new' ho0 (Kd.R_lt (rRx10 HO_308003.out))) (Kd.R_lt (rRx10 HO_308004.out))) (Kd.R_lt (rRx10 HO_308005.out))) (Kd.R_lt (rRx10 HO_323001.out))) (Kd.R_lt (rRx10 HO_323002.out))) (below_size (be4x10 HB.out GE263.out GE264.out GE307.out GE322.out)))
       have n7_ := Aside0.mk (Kd.R_lower (Kd.R_new' (Kd.R_new' (Kd.R_new' (Kd.R_new' (Kd.R_new' ho1 (Kd.R_lt (rRx10 HO_308003.out))) (Kd.R_lt (rRx10 HO_308004.out))) (Kd.R_lt (rRx10 HO_308005.out))) (Kd.R_lt (rRx10 HO_323001.out))) (Kd.R_lt (rRx10 HO_323002.out))) (below_size (be4x10 HB.out GE263.out GE264.out GE307.out GE322.out)))
       have n8_ := Aside0.mk (Kd.R_lower (Kd.R_new' (Kd.R_new' (Kd.R_new' (Kd.R_new' (Kd.R_new' ho2 (Kd.R_lt (rRx10 HO_308003.out))) (Kd.R_lt (rRx10 HO_308004.out))) (Kd.R_lt (rRx10 HO_308005.out))) (Kd.R_lt (rRx10 HO_323001.out))) (Kd.R_lt (rRx10 HO_323002.out))) (below_size (be4x10 HB.out GE263.out GE264.out GE307.out GE322.out)))
       have n9_ := Aside0.mk (blk_below (g := gb263) (o := .cells #[.int .i64 a0_0, .int .i64 a0_1, .int .i64 a0_2, .slice A0_3 l0_3.length c0_3, .slice A0_4 l0_4.length c0_4, .slice A0_5 l0_5.length c0_5] 26 (0, 0)) (rBx10 BK263.out) hb)
       have n10_ := Aside0.mk (blk_below (g := gb264) (o := .cells #[.slice A1_0 l1_0.length c1_0, .slice A1_1 l1_1.length c1_1, .slice A1_2 l1_2.length c1_2, .int .i64 a1_3, .int .i64 a1_4, .int .i64 a1_5, .int .i64 a1_6, .int .i64 a1_7] 31 (0, 0)) (rBx10 BK264.out) hb)
       have n11_ := Aside0.mk (blk_below (g := gb307) (o := .cells #[.int .i64 t295, .int .i64 t296, .int .i64 t297, .slice Ao51 t298.length co51, .slice Ao52 t301.length co52, .slice Ao53 t304.length co53] 41 (0, 0)) (rBx10 BK307.out) hb)
       have n12_ := Aside0.mk (blk_below (g := gb322) (o := .cells #[.slice Ao57 t308.length co57, .slice Ao62 t311.length co62, .slice Ao63 t314.length co63, .int .i64 t317, .int .i64 t318, .int .i64 t319, .int .i64 t320, .int .i64 t321] 45 (0, 0)) (rBx10 BK322.out) hb)
       have n13_ := Aside0.mk (below_step (be4x10 HB.out GE263.out GE264.out GE307.out GE322.out) hb)
       clear HO_308003
       clear HO_308004
       clear HO_308005
       clear HO_323000
       clear HO_323001
       clear HO_323002
       clear BK263
       clear BK264
       clear BK307
       clear BK322
       clear HB
       have HO_308003 := n0_
       have HO_308004 := n1_
       have HO_308005 := n2_
       have HO_323000 := n3_
       have HO_323001 := n4_
       have HO_323002 := n5_
       have HO330 := n6_
       have HO333 := n7_
       have HO336 := n8_
       have BK263 := n9_
       have BK264 := n10_
       have BK307 := n11_
       have BK322 := n12_
       have HB := n13_
       clear n0_ n1_ n2_ n3_ n4_ n5_ n6_ n7_ n8_ n9_ n10_ n11_ n12_ n13_
       (try clear hb)
       (try clear hb2)
       (try clear hk)
       (try clear hi)
       (try clear ho0)
       (try clear ho1)
       (try clear ho2)
       obtain ⟨Ao100, co100, eo100⟩ := Kd.R_slice HO330.out
       (first | subst eo100 | (injection eo100 with f1_ f2_ f3_; have f4_ := f1_.symm; have f5_ := f3_.symm; clear f1_ f2_ f3_; subst f4_; subst f5_))
       obtain ⟨Ao101, co101, eo101⟩ := Kd.R_slice HO333.out
       (first | subst eo101 | (injection eo101 with f1_ f2_ f3_; have f4_ := f1_.symm; have f5_ := f3_.symm; clear f1_ f2_ f3_; subst f4_; subst f5_))
       obtain ⟨Ao102, co102, eo102⟩ := Kd.R_slice HO336.out
       (first | subst eo102 | (injection eo102 with f1_ f2_ f3_; have f4_ := f1_.symm; have f5_ := f3_.symm; clear f1_ f2_ f3_; subst f4_; subst f5_))
       refine hK.out _ _ (ca6x10 BK307.out (cc6x10 BK263.out)) (fun hHeld => ?_)
       clear hK K
       refine norm_ (a' := ?_) ?_ ?_
       rotate_left
       ·show Act.put _ (some 58) _ = _
        simp only [Act.put, List.setIfInBounds_toArray, List.set_cons_zero, List.set_cons_succ, i64_w, i32_w]
        rfl
       refine one_ (i := 3) (N := some 59) #[true, true, true, true, false] rfl rfl (by kernel_rfl) (by decide) (fun K hK => ?_)
       refine goes_ Try.func24 (by kernel_rfl) rfl #[.agg #[.int .i64 t295, .int .i64 t296, .int .i64 t297, .slice Ao51 t298.length co51, .slice Ao52 t301.length co52, .slice Ao53 t304.length co53], .agg #[.int .i64 t325, .int .i64 t326, .int .i64 t327, .slice Ao100 t328.length co100, .slice Ao101 t331.length co101, .slice Ao102 t334.length co102]] (by rfl) rfl rfl mpx10 ?_
       with_reducible refine (laws_eqModel.calls kj26 t295 t296 t297 _ _ t298 _ _ t301 _ _ t304 t325 t326 t327 _ _ t328 _ _ t331 _ _ t334 false _ ?side1 ?side2 ?side3 ?side4 ?side5 ?side6 ?side7 ?side8 ?side9 ?side10 ?side11 ?side12 A69.out).mono ?_
       (case side1 => exact cRx10 HO_308003.out)
       (case side2 => exact (Kd.R_reads' HO_308003.out).2.1)
       (case side3 => exact cRx10 HO_308004.out)
       (case side4 => exact (Kd.R_reads' HO_308004.out).2.1)
       (case side5 => exact cRx10 HO_308005.out)
       (case side6 => exact (Kd.R_reads' HO_308005.out).2.1)
       (case side7 => exact cRx10 HO330.out)
       (case side8 => exact (Kd.R_reads' HO330.out).2.1)
       (case side9 => exact cRx10 HO333.out)
       (case side10 => exact (Kd.R_reads' HO333.out).2.1)
       (case side11 => exact cRx10 HO336.out)
       (case side12 => exact (Kd.R_reads' HO336.out).2.1)
       rintro e w103 ⟨rfl, hb⟩
       refine ⟨_, rfl, ?_⟩
       have n0_ := Aside0.mk (Kd.R_below (rRx10 HO_308003.out) hb)
       have n1_ := Aside0.mk (Kd.R_below (rRx10 HO_308004.out) hb)
       have n2_ := Aside0.mk (Kd.R_below (rRx10 HO_308005.out) hb)
       have n3_ := Aside0.mk (Kd.S_below (rSx10 HO_323000.out) hb)
       have n4_ := Aside0.mk (Kd.R_below (rRx10 HO_323001.out) hb)
       have n5_ := Aside0.mk (Kd.R_below (rRx10 HO_323002.out) hb)
       have n6_ := Aside0.mk (Kd.R_below (rRx10 HO330.out) hb)
       have n7_ := Aside0.mk (Kd.R_below (rRx10 HO333.out) hb)
       have n8_ := Aside0.mk (Kd.R_below (rRx10 HO336.out) hb)
       have n9_ := Aside0.mk (blk_below (g := gb263) (o := .cells #[.int .i64 a0_0, .int .i64 a0_1, .int .i64 a0_2, .slice A0_3 l0_3.length c0_3, .slice A0_4 l0_4.length c0_4, .slice A0_5 l0_5.length c0_5] 26 (0, 0)) (rBx10 BK263.out) hb)
       have n10_ := Aside0.mk (blk_below (g := gb264) (o := .cells #[.slice A1_0 l1_0.length c1_0, .slice A1_1 l1_1.length c1_1, .slice A1_2 l1_2.length c1_2, .int .i64 a1_3, .int .i64 a1_4, .int .i64 a1_5, .int .i64 a1_6, .int .i64 a1_7] 31 (0, 0)) (rBx10 BK264.out) hb)
       have n11_ := Aside0.mk (blk_below (g := gb307) (o := .cells #[.int .i64 t295, .int .i64 t296, .int .i64 t297, .slice Ao51 t298.length co51, .slice Ao52 t301.length co52, .slice Ao53 t304.length co53] 41 (0, 0)) (rBx10 BK307.out) hb)
       have n12_ := Aside0.mk (blk_below (g := gb322) (o := .cells #[.slice Ao57 t308.length co57, .slice Ao62 t311.length co62, .slice Ao63 t314.length co63, .int .i64 t317, .int .i64 t318, .int .i64 t319, .int .i64 t320, .int .i64 t321] 45 (0, 0)) (rBx10 BK322.out) hb)
       have n13_ := Aside0.mk (below_step (be4x10 HB.out GE263.out GE264.out GE307.out GE322.out) hb)
       clear HO_308003
       clear HO_308004
       clear HO_308005
       clear HO_323000
       clear HO_323001
       clear HO_323002
       clear HO330
       clear HO333
       clear HO336
       clear BK263
       clear BK264
       clear BK307
       clear BK322
       clear HB
       have HO_308003 := n0_
       have HO_308004 := n1_
       have HO_308005 := n2_
       have HO_323000 := n3_
       have HO_323001 := n4_
       have HO_323002 := n5_
       have HO330 := n6_
       have HO333 := n7_
       have HO336 := n8_
       have BK263 := n9_
       have BK264 := n10_
       have BK307 := n11_
       have BK322 := n12_
       have HB := n13_
       clear n0_ n1_ n2_ n3_ n4_ n5_ n6_ n7_ n8_ n9_ n10_ n11_ n12_ n13_
       (try clear hb)
       (try clear hb2)
       (try clear hk)
       (try clear hi)
       refine hK.out _ _ (ca6x10 BK307.out (cc6x10 BK263.out)) (fun hHeld => ?_)
       clear hK K
       refine norm_ (a' := ?_) ?_ ?_
       rotate_left
       ·show Act.put _ (some 59) _ = _
        simp only [Act.put, List.setIfInBounds_toArray, List.set_cons_zero, List.set_cons_succ, i64_w, i32_w]
        rfl
       refine pure_ (i := 4) (N := some 60) (v := ?_) (a' := ?_) #[true, true, true, true, true] rfl rfl (by kernel_rfl) (fun _ _ _ h => h) (Or.inl ⟨by rfl, ?_⟩) ?_ ?_
       rotate_left
       ·intro w'
        go_simp
        with_reducible rfl
       rotate_left
       ·simp only [Act.put, List.setIfInBounds_toArray, List.set_cons_zero, List.set_cons_succ, i64_w, i32_w]
        rfl
       refine done_ (by kernel_rfl) ?_
       try go_wp2
       go_ret
       exact ⟨by first | rfl | (simp [errW_none, errW_some] <;> rfl) | (simp [*, errW_none, errW_some] <;> rfl), be4x10 HB.out GE263.out GE264.out GE307.out GE322.out⟩

end Go.Proofs.Ytagnldmaglbpaaa.PFnExactDestinationOf
