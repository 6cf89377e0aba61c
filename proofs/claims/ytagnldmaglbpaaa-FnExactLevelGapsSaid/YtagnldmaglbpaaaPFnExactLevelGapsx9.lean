/- This text is this session's own, not the print's: programs (wip/squeeze.py and others) made it out of what print.sh, or wip/ownprint.py, had written (BYTES set higher), its facts said by short words. -/
import Derived.Test.YtagnldmaglbpaaaPFnExactLevelGapsx0
import Derived.Test.YtagnldmaglbpaaaPFnExactLevelGapsx2
import Derived.Test.YtagnldmaglbpaaaPFnExactLevelGapsx3
import Derived.Test.YtagnldmaglbpaaaPFnExactLevelGapsx4
import Derived.Test.YtagnldmaglbpaaaPFnExactLevelGapsx7
import Derived.Test.YtagnldmaglbpaaaPFnExactLevelGapsx8
import Derived.Test.YtagnldmaglbpaaaPFnExactLevelGapsvx9
import Derived.Test.YtagnldmaglbpaaaPFnExactLevelGapswx9
namespace Go.Proofs.Ytagnldmaglbpaaa.PFnExactLevelGaps
open Go.RowKit Go.Proofs.YtagnldmaglbpaaaW.PrintWords Go.Proofs.YtagnldmaglbpaaaW.PrintLast Go.Proofs.YtagnldmaglbpaaaW.PrintMore
attribute [local go_sem] max2_int min2_int max_two min_two max_three min_three max_four min_four   -- for this text's walks alone
set_option linter.unusedVariables false
set_option linter.unusedSimpArgs false

/-! ### laws_FnExactLevelGaps: function 10 -/
mutual
def laws_FnExactLevelGaps.j0 : Nat → List (List Int) → Bool → List (List Int) → Bool → Bool → Int → Int → Int → List Int → List Int → List Int → Int → Int → Int → List Int → List Int → List Int → Int → Int → Int → List Int → List Int → List Int → Int → Int → Int → List Int → List Int → List Int → Option (Bool)
 | 0, _, _, _, _, _, _, _, _, _, _, _, _, _, _, _, _, _, _, _, _, _, _, _, _, _, _, _, _, _ => none
 | k + 1, x6, x7, x10, x11, x53, x278000, x278001, x278002, x278003, x278004, x278005, x279000, x279001, x279002, x279003, x279004, x279005, x322000, x322001, x322002, x322003, x322004, x322005, x335000, x335001, x335002, x335003, x335004, x335005 => if x53 = true then (some false) else ((laws_toModel.f k x278000 x278001 x278002 x278003 x278004 x278005).bind fun bt340 => ((laws_eqModel.f k x322000 x322001 x322002 x322003 x322004 x322005 bt340.1 bt340.2.1 bt340.2.2.1 bt340.2.2.2.1 bt340.2.2.2.2.1 bt340.2.2.2.2.2).bind fun t352 => (if t352 = true then (laws_FnExactLevelGaps.j1 k x6 x7 x10 x11 x278000 x278001 x278002 x278003 x278004 x278005 x279000 x279001 x279002 x279003 x279004 x279005 x322000 x322001 x322002 x322003 x322004 x322005 x335000 x335001 x335002 x335003 x335004 x335005) else (some false))))
def laws_FnExactLevelGaps.j1 : Nat → List (List Int) → Bool → List (List Int) → Bool → Int → Int → Int → List Int → List Int → List Int → Int → Int → Int → List Int → List Int → List Int → Int → Int → Int → List Int → List Int → List Int → Int → Int → Int → List Int → List Int → List Int → Option (Bool)
 | 0, _, _, _, _, _, _, _, _, _, _, _, _, _, _, _, _, _, _, _, _, _, _, _, _, _, _, _, _ => none
 | k + 1, x6, x7, x10, x11, x278000, x278001, x278002, x278003, x278004, x278005, x279000, x279001, x279002, x279003, x279004, x279005, x322000, x322001, x322002, x322003, x322004, x322005, x335000, x335001, x335002, x335003, x335004, x335005 => (laws_toModel.f k x279000 x279001 x279002 x279003 x279004 x279005).bind fun bt353 => ((laws_eqModel.f k x335000 x335001 x335002 x335003 x335004 x335005 bt353.1 bt353.2.1 bt353.2.2.1 bt353.2.2.2.1 bt353.2.2.2.2.1 bt353.2.2.2.2.2).bind fun t365 => (if t365 = true then (laws_FnExactLevelGaps.j2 k x6 x7 x10 x11 x278000 x278001 x278002 x278003 x278004 x278005 x279000 x279001 x279002 x279003 x279004 x279005 x322000 x322001 x322002 x322003 x322004 x322005 x335000 x335001 x335002 x335003 x335004 x335005) else (some false)))
def laws_FnExactLevelGaps.j2 : Nat → List (List Int) → Bool → List (List Int) → Bool → Int → Int → Int → List Int → List Int → List Int → Int → Int → Int → List Int → List Int → List Int → Int → Int → Int → List Int → List Int → List Int → Int → Int → Int → List Int → List Int → List Int → Option (Bool)
 | 0, _, _, _, _, _, _, _, _, _, _, _, _, _, _, _, _, _, _, _, _, _, _, _, _, _, _, _, _ => none
 | k + 1, x6, x7, x10, x11, x278000, x278001, x278002, x278003, x278004, x278005, x279000, x279001, x279002, x279003, x279004, x279005, x322000, x322001, x322002, x322003, x322004, x322005, x335000, x335001, x335002, x335003, x335004, x335005 => (laws_markModel.f k x322000 x322001 x322002 x322003 x322004 x322005 1).bind fun bt366 => ((laws_markModel.f k x335000 x335001 x335002 x335003 x335004 x335005 bt366.1).bind fun bt370 => (if bt370.1 < 0 then (laws_FnExactLevelGaps.j3 k x6 x7 x10 true x278000 x278001 x278002 x278003 x278004 x278005 x279000 x279001 x279002 x279003 x279004 x279005) else ((laws_eqIntSS.f k x10 x6).bind fun t374 => (if t374 = true then (laws_FnExactLevelGaps.j3 k x6 x7 x10 (x11 != x7) x278000 x278001 x278002 x278003 x278004 x278005 x279000 x279001 x279002 x279003 x279004 x279005) else (laws_FnExactLevelGaps.j3 k x6 x7 x10 true x278000 x278001 x278002 x278003 x278004 x278005 x279000 x279001 x279002 x279003 x279004 x279005)))))
def laws_FnExactLevelGaps.j3 : Nat → List (List Int) → Bool → List (List Int) → Bool → Int → Int → Int → List Int → List Int → List Int → Int → Int → Int → List Int → List Int → List Int → Option (Bool)
 | 0, _, _, _, _, _, _, _, _, _, _, _, _, _, _, _, _ => none
 | k + 1, x6, x7, x10, x82, x278000, x278001, x278002, x278003, x278004, x278005, x279000, x279001, x279002, x279003, x279004, x279005 => if x82 = true then (some false) else ((laws_markIntSS.p k x10 1).bind fun bt375 => ((laws_heldIntSS.f k bt375.2 1).bind fun t377 => (if t377 < 0 then (some false) else (laws_FnExactLevelGaps.j4 k x6 x7 bt375.2 bt375.1 t377 x278000 x278001 x278002 x278003 x278004 x278005 x279000 x279001 x279002 x279003 x279004 x279005))))
def laws_FnExactLevelGaps.j4 : Nat → List (List Int) → Bool → List (List Int) → Int → Int → Int → Int → Int → List Int → List Int → List Int → Int → Int → Int → List Int → List Int → List Int → Option (Bool)
 | 0, _, _, _, _, _, _, _, _, _, _, _, _, _, _, _, _, _ => none
 | k + 1, x6, x7, x10, x13, x14, x278000, x278001, x278002, x278003, x278004, x278005, x279000, x279001, x279002, x279003, x279004, x279005 => if x14 = x13 then ((laws_toModel.f k x278000 x278001 x278002 x278003 x278004 x278005).bind fun bt378 => ((laws_toModel.f k x279000 x279001 x279002 x279003 x279004 x279005).bind fun bt390 => ((impl_LevelGaps.f k bt378.1 bt378.2.1 bt378.2.2.1 bt378.2.2.2.1 bt378.2.2.2.2.1 bt378.2.2.2.2.2 bt390.1 bt390.2.1 bt390.2.2.1 bt390.2.2.2.1 bt390.2.2.2.2.1 bt390.2.2.2.2.2).bind fun bt402 => ((laws_eqIntSS.f k bt402.1 x6).bind fun t406 => (if t406 = true then (laws_FnExactLevelGaps.j5 k x10 x13 (bt402.2 != x7)) else (laws_FnExactLevelGaps.j5 k x10 x13 true)))))) else (some false)
def laws_FnExactLevelGaps.j5 : Nat → List (List Int) → Int → Bool → Option (Bool)
 | 0, _, _, _ => none
 | k + 1, x10, x13, x110 => if x110 = true then (some false) else ((laws_heldIntSS.f k x10 1).bind fun t407 => (if t407 < 0 then (some false) else (if t407 = x13 then (some true) else (some false))))
end
def laws_FnExactLevelGaps.f (k : Nat) (a0_0 : Int) (a0_1 : Int) (a0_2 : Int) (l0_3 : List Int) (l0_4 : List Int) (l0_5 : List Int) (a1_0 : Int) (a1_1 : Int) (a1_2 : Int) (l1_3 : List Int) (l1_4 : List Int) (l1_5 : List Int) : Option (Bool) := (laws_szModel.f a0_0 a0_1 a0_2 l0_3 l0_4 l0_5 1048576).bind fun t279 => (if t279 < 0 then (some true) else ((laws_szModel.f a1_0 a1_1 a1_2 l1_3 l1_4 l1_5 t279).bind fun t280 => (if t280 < 0 then (some true) else ((laws_toModel.f k a0_0 a0_1 a0_2 l0_3 l0_4 l0_5).bind fun bt281 => ((laws_toModel.f k a1_0 a1_1 a1_2 l1_3 l1_4 l1_5).bind fun bt293 => ((spec_LevelGaps.f k bt281.1 bt281.2.1 bt281.2.2.1 bt281.2.2.2.1 bt281.2.2.2.2.1 bt281.2.2.2.2.2 bt293.1 bt293.2.1 bt293.2.2.1 bt293.2.2.2.1 bt293.2.2.2.2.1 bt293.2.2.2.2.2).bind fun bt305 => ((laws_toModel.f k a0_0 a0_1 a0_2 l0_3 l0_4 l0_5).bind fun bt309 => ((laws_toModel.f k a1_0 a1_1 a1_2 l1_3 l1_4 l1_5).bind fun bt322 => ((impl_LevelGaps.f k bt309.1 bt309.2.1 bt309.2.2.1 bt309.2.2.2.1 bt309.2.2.2.2.1 bt309.2.2.2.2.2 bt322.1 bt322.2.1 bt322.2.2.1 bt322.2.2.2.1 bt322.2.2.2.2.1 bt322.2.2.2.2.2).bind fun bt335 => ((laws_eqIntSS.f k bt335.1 bt305.1).bind fun t339 => (if t339 = true then (laws_FnExactLevelGaps.j0 k bt305.1 bt305.2 bt335.1 bt335.2 (bt335.2 != bt305.2) a0_0 a0_1 a0_2 l0_3 l0_4 l0_5 a1_0 a1_1 a1_2 l1_3 l1_4 l1_5 bt309.1 bt309.2.1 bt309.2.2.1 bt309.2.2.2.1 bt309.2.2.2.2.1 bt309.2.2.2.2.2 bt322.1 bt322.2.1 bt322.2.2.1 bt322.2.2.2.1 bt322.2.2.2.2.1 bt322.2.2.2.2.2) else (laws_FnExactLevelGaps.j0 k bt305.1 bt305.2 bt335.1 bt335.2 true a0_0 a0_1 a0_2 l0_3 l0_4 l0_5 a1_0 a1_1 a1_2 l1_3 l1_4 l1_5 bt309.1 bt309.2.1 bt309.2.2.1 bt309.2.2.2.1 bt309.2.2.2.2.1 bt309.2.2.2.2.2 bt322.1 bt322.2.1 bt322.2.2.1 bt322.2.2.2.1 bt322.2.2.2.2.1 bt322.2.2.2.2.2))))))))))))
def laws_FnExactLevelGaps.T8 : Bool × List (List Nat × List Nat) := (true, [([], []), ([0], [0]), ([], []), ([2, 1], [2]), ([1, 3, 3], [1, 3]), ([4], [4]), ([5], [5]), ([5], [5]), ([6, 4, 0, 1, 2, 3, 4, 5, 6], [6]), ([7, 8, 0, 1, 2, 3, 4, 5, 6, 7, 8], [7])])
def laws_FnExactLevelGaps.B8 : List Nat := [0, 1, 0, 7, 15, 31, 63, 63, 127, 511]
theorem laws_FnExactLevelGaps.tab8 : rtab .any (opsOf Try.f10 8) = laws_FnExactLevelGaps.T8 := by kernel_rfl
theorem laws_FnExactLevelGaps.bits8 : waitsOk laws_FnExactLevelGaps.T8.2 laws_FnExactLevelGaps.B8 = true := by kernel_rfl
def laws_FnExactLevelGaps.T31 : Bool × List (List Nat × List Nat) := (true, [([], []), ([0], [0]), ([], []), ([2, 1], [2]), ([1, 3, 3], [1, 3]), ([4], [4]), ([5], [5]), ([5], [5]), ([6, 4, 0, 1, 2, 3, 4, 5, 6], [6]), ([7, 8, 0, 1, 2, 3, 4, 5, 6, 7, 8], [7])])
def laws_FnExactLevelGaps.B31 : List Nat := [0, 1, 0, 7, 15, 31, 63, 63, 127, 511]
theorem laws_FnExactLevelGaps.tab31 : rtab .any (opsOf Try.f10 31) = laws_FnExactLevelGaps.T31 := by kernel_rfl
theorem laws_FnExactLevelGaps.bits31 : waitsOk laws_FnExactLevelGaps.T31.2 laws_FnExactLevelGaps.B31 = true := by kernel_rfl
set_option maxHeartbeats 8000000 in
set_option maxRecDepth 100000 in
theorem laws_FnExactLevelGaps.calls (k : Nat) (a0_0 : Int) (a0_1 : Int) (a0_2 : Int) (A0_3 : Option Addr) (c0_3 : Nat) (l0_3 : List Int) (A0_4 : Option Addr) (c0_4 : Nat) (l0_4 : List Int) (A0_5 : Option Addr) (c0_5 : Nat) (l0_5 : List Int) (a1_0 : Int) (a1_1 : Int) (a1_2 : Int) (A1_3 : Option Addr) (c1_3 : Nat) (l1_3 : List Int) (A1_4 : Option Addr) (c1_4 : Nat) (l1_4 : List Int) (A1_5 : Option Addr) (c1_5 : Nat) (l1_5 : List Int) (r : Bool) (w : World) (hr0_3 : Kd.C (Kd.int .i64) w A0_3 l0_3.length l0_3) (hc0_3 : l0_3.length ≤ c0_3) (hr0_4 : Kd.C (Kd.int .i64) w A0_4 l0_4.length l0_4) (hc0_4 : l0_4.length ≤ c0_4) (hr0_5 : Kd.C (Kd.int .i64) w A0_5 l0_5.length l0_5) (hc0_5 : l0_5.length ≤ c0_5) (hr1_3 : Kd.C (Kd.int .i64) w A1_3 l1_3.length l1_3) (hc1_3 : l1_3.length ≤ c1_3) (hr1_4 : Kd.C (Kd.int .i64) w A1_4 l1_4.length l1_4) (hc1_4 : l1_4.length ≤ c1_4) (hr1_5 : Kd.C (Kd.int .i64) w A1_5 l1_5.length l1_5) (hc1_5 : l1_5.length ≤ c1_5) (h : laws_FnExactLevelGaps.f k a0_0 a0_1 a0_2 l0_3 l0_4 l0_5 a1_0 a1_1 a1_2 l1_3 l1_4 l1_5 = some r) :
  Calls Try.prog 10 #[.agg #[.int .i64 a0_0, .int .i64 a0_1, .int .i64 a0_2, .slice A0_3 l0_3.length c0_3, .slice A0_4 l0_4.length c0_4, .slice A0_5 l0_5.length c0_5], .agg #[.int .i64 a1_0, .int .i64 a1_1, .int .i64 a1_2, .slice A1_3 l1_3.length c1_3, .slice A1_4 l1_4.length c1_4, .slice A1_5 l1_5.length c1_5]] w fun e w' => e = .returned (.bool r) ∧ Below w.heap.size w w' := by
 have hu26 := Try.underlying26
 have hu41 := Try.underlying41
 have HR0_3 := Aside0.mk hr0_3
 have HC0_3 := Aside0.mk hc0_3
 clear hr0_3 hc0_3
 have HR0_4 := Aside0.mk hr0_4
 have HC0_4 := Aside0.mk hc0_4
 clear hr0_4 hc0_4
 have HR0_5 := Aside0.mk hr0_5
 have HC0_5 := Aside0.mk hc0_5
 clear hr0_5 hc0_5
 have HR1_3 := Aside0.mk hr1_3
 have HC1_3 := Aside0.mk hc1_3
 clear hr1_3 hc1_3
 have HR1_4 := Aside0.mk hr1_4
 have HC1_4 := Aside0.mk hc1_4
 clear hr1_4 hc1_4
 have HR1_5 := Aside0.mk hr1_5
 have HC1_5 := Aside0.mk hc1_5
 clear hr1_5 hc1_5
 have HB := Aside0.mk (Below.refl w.heap.size w)
 have H : ((laws_szModel.f a0_0 a0_1 a0_2 l0_3 l0_4 l0_5 1048576).bind fun t279 => (if t279 < 0 then (some true) else ((laws_szModel.f a1_0 a1_1 a1_2 l1_3 l1_4 l1_5 t279).bind fun t280 => (if t280 < 0 then (some true) else ((laws_toModel.f k a0_0 a0_1 a0_2 l0_3 l0_4 l0_5).bind fun bt281 => ((laws_toModel.f k a1_0 a1_1 a1_2 l1_3 l1_4 l1_5).bind fun bt293 => ((spec_LevelGaps.f k bt281.1 bt281.2.1 bt281.2.2.1 bt281.2.2.2.1 bt281.2.2.2.2.1 bt281.2.2.2.2.2 bt293.1 bt293.2.1 bt293.2.2.1 bt293.2.2.2.1 bt293.2.2.2.2.1 bt293.2.2.2.2.2).bind fun bt305 => ((laws_toModel.f k a0_0 a0_1 a0_2 l0_3 l0_4 l0_5).bind fun bt309 => ((laws_toModel.f k a1_0 a1_1 a1_2 l1_3 l1_4 l1_5).bind fun bt322 => ((impl_LevelGaps.f k bt309.1 bt309.2.1 bt309.2.2.1 bt309.2.2.2.1 bt309.2.2.2.2.1 bt309.2.2.2.2.2 bt322.1 bt322.2.1 bt322.2.2.1 bt322.2.2.2.1 bt322.2.2.2.2.1 bt322.2.2.2.2.2).bind fun bt335 => ((laws_eqIntSS.f k bt335.1 bt305.1).bind fun t339 => (if t339 = true then (laws_FnExactLevelGaps.j0 k bt305.1 bt305.2 bt335.1 bt335.2 (bt335.2 != bt305.2) a0_0 a0_1 a0_2 l0_3 l0_4 l0_5 a1_0 a1_1 a1_2 l1_3 l1_4 l1_5 bt309.1 bt309.2.1 bt309.2.2.1 bt309.2.2.2.1 bt309.2.2.2.2.1 bt309.2.2.2.2.2 bt322.1 bt322.2.1 bt322.2.2.1 bt322.2.2.2.1 bt322.2.2.2.2.1 bt322.2.2.2.2.2) else (laws_FnExactLevelGaps.j0 k bt305.1 bt305.2 bt335.1 bt335.2 true a0_0 a0_1 a0_2 l0_3 l0_4 l0_5 a1_0 a1_1 a1_2 l1_3 l1_4 l1_5 bt309.1 bt309.2.1 bt309.2.2.1 bt309.2.2.2.1 bt309.2.2.2.2.1 bt309.2.2.2.2.2 bt322.1 bt322.2.1 bt322.2.2.1 bt322.2.2.2.1 bt322.2.2.2.2.1 bt322.2.2.2.2.2))))))))))))) = some r := h
 clear h
 replace H := Option.bind_eq_some_iff.mp H
 obtain ⟨t279, A30, H⟩ := H
 have A3 := Aside0.mk A30
 clear A30
 by_cases c4 : t279 < 0
 ·rw [if_pos c4] at H
  have c4b0 : decide (t279 < 0) = true := decide_eq_true c4
  clear c4
  obtain rfl := Option.some.inj H
  go_enter Try.func10, Try.ntmps10
  go_wp2_with (first | ((with_reducible refine gate_dst (N := 2) rfl ?_); refine box_event ?hg (N := 2) ?hd (cs := #[.int .i64 a0_0, .int .i64 a0_1, .int .i64 a0_2, .slice A0_3 l0_3.length c0_3, .slice A0_4 l0_4.length c0_4, .slice A0_5 l0_5.length c0_5]) (t := 26) ?hr ?_; (case hd => rfl); (case hg => rfl); (case hr => first | (go_simp; done) | (go_simp; rfl)); intro gb277 hg w5 hbox hb; have BK277 := Aside0.mk (hbox); have GW277 := Aside0.mk ((by rw [hg]; exact (below_size (be0x9 HB.out)) : w.heap.size ≤ gb277)); have GE277 := Aside0.mk ((by rw [hg]; exact (below_size (be0x9 HB.out)) : w.heap.size ≤ gb277)); replace HB := Aside0.mk (below_step (be0x9 HB.out) hb); clear hb hbox hg) | ((with_reducible refine gate_dst (N := 3) rfl ?_); refine box_event ?hg (N := 3) ?hd (cs := #[.int .i64 a1_0, .int .i64 a1_1, .int .i64 a1_2, .slice A1_3 l1_3.length c1_3, .slice A1_4 l1_4.length c1_4, .slice A1_5 l1_5.length c1_5]) (t := 26) ?hr ?_; (case hd => rfl); (case hg => rfl); (case hr => first | (go_simp; done) | (go_simp; rfl)); intro gb278 hg w6 hbox hb; have BK278 := Aside0.mk (hbox); have GW278 := Aside0.mk ((by rw [hg]; exact (below_size (be1x9 HB.out GE277.out)) : w.heap.size ≤ gb278)); have GE278 := Aside0.mk ((by rw [hg]; exact (below_size (be1x9 HB.out GE277.out)) : w.heap.size ≤ gb278)); replace HB := Aside0.mk (below_step (be1x9 HB.out GE277.out) hb); have NB277_278 := Aside0.mk ((by rw [hg]; exact Nat.ne_of_lt (blk_lt (rBx9 BK277.out)) : gb277 ≠ gb278)); have NB278_277 := Aside0.mk ((by rw [hg]; exact Nat.ne_of_gt (blk_lt (rBx9 BK277.out)) : gb278 ≠ gb277)); replace BK277 := Aside0.mk (blk_below (rBx9 BK277.out) hb); clear hb hbox hg; have hnb7 := NB277_278.out; have hnc7 := NB278_277.out; obtain ⟨hcz8_0, hcz8_1, hcz8_2, hcz8_3, hcz8_4, hcz8_5, hfz8_0, hfz8_1, hfz8_2, hfz8_3, hfz8_4, hfz8_5⟩ := cf6x9 BK277.out) | ((with_reducible refine gate_callee (f := 15) rfl ?_); refine goesL_ (some 19) rfl rfl Try.func15 (by kernel_rfl) rfl #[.agg #[.int .i64 a0_0, .int .i64 a0_1, .int .i64 a0_2, .slice A0_3 l0_3.length c0_3, .slice A0_4 l0_4.length c0_4, .slice A0_5 l0_5.length c0_5], .int .i64 1048576] rfl mpx9 ?_; (with_reducible refine (laws_szModel.calls a0_0 a0_1 a0_2 _ _ l0_3 _ _ l0_4 _ _ l0_5 1048576 t279 _ ?side1 ?side2 ?side3 ?side4 ?side5 ?side6 A3.out).mono ?_); (case side1 => exact rCx9 (Kd.C_below HR0_3.out HB.out)); (case side2 => exact HC0_3.out); (case side3 => exact rCx9 (Kd.C_below HR0_4.out HB.out)); (case side4 => exact HC0_4.out); (case side5 => exact rCx9 (Kd.C_below HR0_5.out HB.out)); (case side6 => exact HC0_5.out); rintro e w9 ⟨rfl, hb⟩; refine ⟨_, rfl, ?_⟩; replace BK277 := Aside0.mk (blk_below (rBx9 BK277.out) hb); replace BK278 := Aside0.mk (blk_below (rBx9 BK278.out) hb); replace HB := Aside0.mk (below_step (be2x9 HB.out GE277.out GE278.out) hb); (try clear hb); (try clear hb2); (try clear hk); (try clear hi)))
  go_ret
  exact ⟨by first | rfl | (simp [errW_none, errW_some] <;> rfl) | (simp [*, errW_none, errW_some] <;> rfl), be2x9 HB.out GE277.out GE278.out⟩
 ·rw [if_neg c4] at H
  have c4b0 : decide (t279 < 0) = false := decide_eq_false c4
  clear c4
  replace H := Option.bind_eq_some_iff.mp H
  obtain ⟨t280, A100, H⟩ := H
  have A10 := Aside0.mk A100
  clear A100
  by_cases c11 : t280 < 0
  ·rw [if_pos c11] at H
   have c11b0 : decide (t280 < 0) = true := decide_eq_true c11
   clear c11
   obtain rfl := Option.some.inj H
   go_enter Try.func10, Try.ntmps10
   go_wp2_with (first | ((with_reducible refine gate_dst (N := 2) rfl ?_); refine box_event ?hg (N := 2) ?hd (cs := #[.int .i64 a0_0, .int .i64 a0_1, .int .i64 a0_2, .slice A0_3 l0_3.length c0_3, .slice A0_4 l0_4.length c0_4, .slice A0_5 l0_5.length c0_5]) (t := 26) ?hr ?_; (case hd => rfl); (case hg => rfl); (case hr => first | (go_simp; done) | (go_simp; rfl)); intro gb277 hg w12 hbox hb; have BK277 := Aside0.mk (hbox); have GW277 := Aside0.mk ((by rw [hg]; exact (below_size (be0x9 HB.out)) : w.heap.size ≤ gb277)); have GE277 := Aside0.mk ((by rw [hg]; exact (below_size (be0x9 HB.out)) : w.heap.size ≤ gb277)); replace HB := Aside0.mk (below_step (be0x9 HB.out) hb); clear hb hbox hg) | ((with_reducible refine gate_dst (N := 3) rfl ?_); refine box_event ?hg (N := 3) ?hd (cs := #[.int .i64 a1_0, .int .i64 a1_1, .int .i64 a1_2, .slice A1_3 l1_3.length c1_3, .slice A1_4 l1_4.length c1_4, .slice A1_5 l1_5.length c1_5]) (t := 26) ?hr ?_; (case hd => rfl); (case hg => rfl); (case hr => first | (go_simp; done) | (go_simp; rfl)); intro gb278 hg w13 hbox hb; have BK278 := Aside0.mk (hbox); have GW278 := Aside0.mk ((by rw [hg]; exact (below_size (be1x9 HB.out GE277.out)) : w.heap.size ≤ gb278)); have GE278 := Aside0.mk ((by rw [hg]; exact (below_size (be1x9 HB.out GE277.out)) : w.heap.size ≤ gb278)); replace HB := Aside0.mk (below_step (be1x9 HB.out GE277.out) hb); have NB277_278 := Aside0.mk ((by rw [hg]; exact Nat.ne_of_lt (blk_lt (rBx9 BK277.out)) : gb277 ≠ gb278)); have NB278_277 := Aside0.mk ((by rw [hg]; exact Nat.ne_of_gt (blk_lt (rBx9 BK277.out)) : gb278 ≠ gb277)); replace BK277 := Aside0.mk (blk_below (rBx9 BK277.out) hb); clear hb hbox hg; have hnb14 := NB277_278.out; have hnc14 := NB278_277.out; obtain ⟨hcz15_0, hcz15_1, hcz15_2, hcz15_3, hcz15_4, hcz15_5, hfz15_0, hfz15_1, hfz15_2, hfz15_3, hfz15_4, hfz15_5⟩ := cf6x9 BK277.out) | ((with_reducible refine gate_callee (f := 15) rfl ?_); refine goesL_ (some 19) rfl rfl Try.func15 (by kernel_rfl) rfl #[.agg #[.int .i64 a0_0, .int .i64 a0_1, .int .i64 a0_2, .slice A0_3 l0_3.length c0_3, .slice A0_4 l0_4.length c0_4, .slice A0_5 l0_5.length c0_5], .int .i64 1048576] rfl mpx9 ?_; (with_reducible refine (laws_szModel.calls a0_0 a0_1 a0_2 _ _ l0_3 _ _ l0_4 _ _ l0_5 1048576 t279 _ ?side1 ?side2 ?side3 ?side4 ?side5 ?side6 A3.out).mono ?_); (case side1 => exact rCx9 (Kd.C_below HR0_3.out HB.out)); (case side2 => exact HC0_3.out); (case side3 => exact rCx9 (Kd.C_below HR0_4.out HB.out)); (case side4 => exact HC0_4.out); (case side5 => exact rCx9 (Kd.C_below HR0_5.out HB.out)); (case side6 => exact HC0_5.out); rintro e w16 ⟨rfl, hb⟩; refine ⟨_, rfl, ?_⟩; replace BK277 := Aside0.mk (blk_below (rBx9 BK277.out) hb); replace BK278 := Aside0.mk (blk_below (rBx9 BK278.out) hb); replace HB := Aside0.mk (below_step (be2x9 HB.out GE277.out GE278.out) hb); (try clear hb); (try clear hb2); (try clear hk); (try clear hi); obtain ⟨hcz17_0, hcz17_1, hcz17_2, hcz17_3, hcz17_4, hcz17_5, hfz17_0, hfz17_1, hfz17_2, hfz17_3, hfz17_4, hfz17_5⟩ := cf6x9 BK278.out) | ((with_reducible refine gate_callee (f := 15) rfl ?_); refine goesL_ (some 24) rfl rfl Try.func15 (by kernel_rfl) rfl #[.agg #[.int .i64 a1_0, .int .i64 a1_1, .int .i64 a1_2, .slice A1_3 l1_3.length c1_3, .slice A1_4 l1_4.length c1_4, .slice A1_5 l1_5.length c1_5], .int .i64 t279] rfl mpx9 ?_; (with_reducible refine (laws_szModel.calls a1_0 a1_1 a1_2 _ _ l1_3 _ _ l1_4 _ _ l1_5 t279 t280 _ ?side1 ?side2 ?side3 ?side4 ?side5 ?side6 A10.out).mono ?_); (case side1 => exact rCx9 (Kd.C_below HR1_3.out HB.out)); (case side2 => exact HC1_3.out); (case side3 => exact rCx9 (Kd.C_below HR1_4.out HB.out)); (case side4 => exact HC1_4.out); (case side5 => exact rCx9 (Kd.C_below HR1_5.out HB.out)); (case side6 => exact HC1_5.out); rintro e w18 ⟨rfl, hb⟩; refine ⟨_, rfl, ?_⟩; replace BK277 := Aside0.mk (blk_below (rBx9 BK277.out) hb); replace BK278 := Aside0.mk (blk_below (rBx9 BK278.out) hb); replace HB := Aside0.mk (below_step (be2x9 HB.out GE277.out GE278.out) hb); (try clear hb); (try clear hb2); (try clear hk); (try clear hi)))
   go_ret
   exact ⟨by first | rfl | (simp [errW_none, errW_some] <;> rfl) | (simp [*, errW_none, errW_some] <;> rfl), be2x9 HB.out GE277.out GE278.out⟩
  ·rw [if_neg c11] at H
   have c11b0 : decide (t280 < 0) = false := decide_eq_false c11
   clear c11
   replace H := Option.bind_eq_some_iff.mp H
   obtain ⟨⟨t281, t282, t283, t284, t287, t290⟩, A190, H⟩ := H
   (try dsimp only at H)
   have A19 := Aside0.mk A190
   clear A190
   replace H := Option.bind_eq_some_iff.mp H
   obtain ⟨⟨t293, t294, t295, t296, t299, t302⟩, A200, H⟩ := H
   (try dsimp only at H)
   have A20 := Aside0.mk A200
   clear A200
   replace H := Option.bind_eq_some_iff.mp H
   obtain ⟨⟨t305, t308⟩, A210, H⟩ := H
   (try dsimp only at H)
   have A21 := Aside0.mk A210
   clear A210
   replace H := Option.bind_eq_some_iff.mp H
   obtain ⟨⟨t309, t310, t311, t312, t315, t318⟩, A220, H⟩ := H
   (try dsimp only at H)
   have A22 := Aside0.mk A220
   clear A220
   replace H := Option.bind_eq_some_iff.mp H
   obtain ⟨⟨t322, t323, t324, t325, t328, t331⟩, A230, H⟩ := H
   (try dsimp only at H)
   have A23 := Aside0.mk A230
   clear A230
   replace H := Option.bind_eq_some_iff.mp H
   obtain ⟨⟨t335, t338⟩, A240, H⟩ := H
   (try dsimp only at H)
   have A24 := Aside0.mk A240
   clear A240
   have HC25 := Aside0.mk H
   clear H
   go_enter Try.func10, Try.ntmps10
   try go_wp2_with (first | ((with_reducible refine gate_dst (N := 2) rfl ?_); refine box_event ?hg (N := 2) ?hd (cs := #[.int .i64 a0_0, .int .i64 a0_1, .int .i64 a0_2, .slice A0_3 l0_3.length c0_3, .slice A0_4 l0_4.length c0_4, .slice A0_5 l0_5.length c0_5]) (t := 26) ?hr ?_; (case hd => rfl); (case hg => rfl); (case hr => first | (go_simp; done) | (go_simp; rfl)); intro gb277 hg w26 hbox hb; have BK277 := Aside0.mk (hbox); have GW277 := Aside0.mk ((by rw [hg]; exact (below_size (be0x9 HB.out)) : w.heap.size ≤ gb277)); have GE277 := Aside0.mk ((by rw [hg]; exact (below_size (be0x9 HB.out)) : w.heap.size ≤ gb277)); replace HB := Aside0.mk (below_step (be0x9 HB.out) hb); clear hb hbox hg) | ((with_reducible refine gate_dst (N := 3) rfl ?_); refine box_event ?hg (N := 3) ?hd (cs := #[.int .i64 a1_0, .int .i64 a1_1, .int .i64 a1_2, .slice A1_3 l1_3.length c1_3, .slice A1_4 l1_4.length c1_4, .slice A1_5 l1_5.length c1_5]) (t := 26) ?hr ?_; (case hd => rfl); (case hg => rfl); (case hr => first | (go_simp; done) | (go_simp; rfl)); intro gb278 hg w27 hbox hb; have BK278 := Aside0.mk (hbox); have GW278 := Aside0.mk ((by rw [hg]; exact (below_size (be1x9 HB.out GE277.out)) : w.heap.size ≤ gb278)); have GE278 := Aside0.mk ((by rw [hg]; exact (below_size (be1x9 HB.out GE277.out)) : w.heap.size ≤ gb278)); replace HB := Aside0.mk (below_step (be1x9 HB.out GE277.out) hb); have NB277_278 := Aside0.mk ((by rw [hg]; exact Nat.ne_of_lt (blk_lt (rBx9 BK277.out)) : gb277 ≠ gb278)); have NB278_277 := Aside0.mk ((by rw [hg]; exact Nat.ne_of_gt (blk_lt (rBx9 BK277.out)) : gb278 ≠ gb277)); replace BK277 := Aside0.mk (blk_below (rBx9 BK277.out) hb); clear hb hbox hg; have hnb28 := NB277_278.out; have hnc28 := NB278_277.out; obtain ⟨hcz29_0, hcz29_1, hcz29_2, hcz29_3, hcz29_4, hcz29_5, hfz29_0, hfz29_1, hfz29_2, hfz29_3, hfz29_4, hfz29_5⟩ := cf6x9 BK277.out) | ((with_reducible refine gate_callee (f := 15) rfl ?_); refine goesL_ (some 19) rfl rfl Try.func15 (by kernel_rfl) rfl #[.agg #[.int .i64 a0_0, .int .i64 a0_1, .int .i64 a0_2, .slice A0_3 l0_3.length c0_3, .slice A0_4 l0_4.length c0_4, .slice A0_5 l0_5.length c0_5], .int .i64 1048576] rfl mpx9 ?_; (with_reducible refine (laws_szModel.calls a0_0 a0_1 a0_2 _ _ l0_3 _ _ l0_4 _ _ l0_5 1048576 t279 _ ?side1 ?side2 ?side3 ?side4 ?side5 ?side6 A3.out).mono ?_); (case side1 => exact rCx9 (Kd.C_below HR0_3.out HB.out)); (case side2 => exact HC0_3.out); (case side3 => exact rCx9 (Kd.C_below HR0_4.out HB.out)); (case side4 => exact HC0_4.out); (case side5 => exact rCx9 (Kd.C_below HR0_5.out HB.out)); (case side6 => exact HC0_5.out); rintro e w30 ⟨rfl, hb⟩; refine ⟨_, rfl, ?_⟩; replace BK277 := Aside0.mk (blk_below (rBx9 BK277.out) hb); replace BK278 := Aside0.mk (blk_below (rBx9 BK278.out) hb); replace HB := Aside0.mk (below_step (be2x9 HB.out GE277.out GE278.out) hb); (try clear hb); (try clear hb2); (try clear hk); (try clear hi); obtain ⟨hcz31_0, hcz31_1, hcz31_2, hcz31_3, hcz31_4, hcz31_5, hfz31_0, hfz31_1, hfz31_2, hfz31_3, hfz31_4, hfz31_5⟩ := cf6x9 BK278.out) | ((with_reducible refine gate_callee (f := 15) rfl ?_); refine goesL_ (some 24) rfl rfl Try.func15 (by kernel_rfl) rfl #[.agg #[.int .i64 a1_0, .int .i64 a1_1, .int .i64 a1_2, .slice A1_3 l1_3.length c1_3, .slice A1_4 l1_4.length c1_4, .slice A1_5 l1_5.length c1_5], .int .i64 t279] rfl mpx9 ?_; (with_reducible refine (laws_szModel.calls a1_0 a1_1 a1_2 _ _ l1_3 _ _ l1_4 _ _ l1_5 t279 t280 _ ?side1 ?side2 ?side3 ?side4 ?side5 ?side6 A10.out).mono ?_); (case side1 => exact rCx9 (Kd.C_below HR1_3.out HB.out)); (case side2 => exact HC1_3.out); (case side3 => exact rCx9 (Kd.C_below HR1_4.out HB.out)); (case side4 => exact HC1_4.out); (case side5 => exact rCx9 (Kd.C_below HR1_5.out HB.out)); (case side6 => exact HC1_5.out); rintro e w32 ⟨rfl, hb⟩; refine ⟨_, rfl, ?_⟩; replace BK277 := Aside0.mk (blk_below (rBx9 BK277.out) hb); replace BK278 := Aside0.mk (blk_below (rBx9 BK278.out) hb); replace HB := Aside0.mk (below_step (be2x9 HB.out GE277.out GE278.out) hb); (try clear hb); (try clear hb2); (try clear hk); (try clear hi)))
   replace BK277 := Aside0.mk (blk_drew BK277.out)
   replace BK278 := Aside0.mk (blk_drew BK278.out)
   replace HB := Aside0.mk (below_drew1 HB.out)
   refine start_ (n := 10) (S := fun w' => w'.cell? ⟨gb277, 0, none⟩ = some (.int .i64 a0_0) ∧ w'.cell? ⟨gb277, 1, none⟩ = some (.int .i64 a0_1) ∧ w'.cell? ⟨gb277, 2, none⟩ = some (.int .i64 a0_2) ∧ w'.cell? ⟨gb277, 3, none⟩ = some (.slice A0_3 l0_3.length c0_3) ∧ w'.cell? ⟨gb277, 4, none⟩ = some (.slice A0_4 l0_4.length c0_4) ∧ w'.cell? ⟨gb277, 5, none⟩ = some (.slice A0_5 l0_5.length c0_5) ∧ w'.cell? ⟨gb278, 0, none⟩ = some (.int .i64 a1_0) ∧ w'.cell? ⟨gb278, 1, none⟩ = some (.int .i64 a1_1) ∧ w'.cell? ⟨gb278, 2, none⟩ = some (.int .i64 a1_2) ∧ w'.cell? ⟨gb278, 3, none⟩ = some (.slice A1_3 l1_3.length c1_3) ∧ w'.cell? ⟨gb278, 4, none⟩ = some (.slice A1_4 l1_4.length c1_4) ∧ w'.cell? ⟨gb278, 5, none⟩ = some (.slice A1_5 l1_5.length c1_5)) (ds := []) #[false, false, false, false, false, false, false, false, false, false] (by kernel_rfl) rfl rfl (ca6x9 BK277.out (cc6x9 BK278.out)) (fun hHeld => ?_); refine with_tabW laws_FnExactLevelGaps.tab8 laws_FnExactLevelGaps.bits8 (fun HT_ HW_ => ?_)
   generalize w32.drew = w33 at BK277 BK278 HB hHeld ⊢
   refine take_ (i := 0) (N := some 28) (v := ?_) (a' := ?_) #[true, false, false, false, false, false, false, false, false, false] rfl rfl (take_ofW HT_.out HW_.out (by kernel_rfl)) (fun _ _ _ h => h) (Or.inl ⟨by rfl, ?_⟩) hHeld ?_ ?_
   rotate_left
   ·rintro w' ⟨s0, s1, s2, s3, s4, s5, s6, s7, s8, s9, s10, s11⟩
    go_simp
    with_reducible rfl
   rotate_left
   ·simp only [Act.put, List.setIfInBounds_toArray, List.set_cons_zero, List.set_cons_succ, i64_w, i32_w]
    rfl
   refine take_ (i := 2) (N := some 30) (v := ?_) (a' := ?_) #[true, false, true, false, false, false, false, false, false, false] rfl rfl (take_ofW HT_.out HW_.out (by kernel_rfl)) (fun _ _ _ h => h) (Or.inl ⟨by rfl, ?_⟩) hHeld ?_ ?_
   rotate_left
   ·rintro w' ⟨s0, s1, s2, s3, s4, s5, s6, s7, s8, s9, s10, s11⟩
    go_simp
    with_reducible rfl
   rotate_left
   ·simp only [Act.put, List.setIfInBounds_toArray, List.set_cons_zero, List.set_cons_succ, i64_w, i32_w]
    rfl
   refine one_ (i := 1) (N := some 29) #[true, true, true, false, false, false, false, false, false, false] rfl rfl (one_of HT_.out (by kernel_rfl)) (by decide) (fun K hK => ?_)
   refine goes_ Try.func19 (by kernel_rfl) rfl #[.agg #[.int .i64 a0_0, .int .i64 a0_1, .int .i64 a0_2, .slice A0_3 l0_3.length c0_3, .slice A0_4 l0_4.length c0_4, .slice A0_5 l0_5.length c0_5]] (by rfl) rfl rfl mpx9 ?_
   with_reducible refine (laws_toModel.calls k a0_0 a0_1 a0_2 _ _ l0_3 _ _ l0_4 _ _ l0_5 t281 t282 t283 t284 t287 t290 _ ?side1 ?side2 ?side3 ?side4 ?side5 ?side6 A19.out).mono ?_
   (case side1 => exact rCx9 (Kd.C_below HR0_3.out HB.out))
   (case side2 => exact HC0_3.out)
   (case side3 => exact rCx9 (Kd.C_below HR0_4.out HB.out))
   (case side4 => exact HC0_4.out)
   (case side5 => exact rCx9 (Kd.C_below HR0_5.out HB.out))
   (case side6 => exact HC0_5.out)
   rintro e w34 ⟨v285, v288, v291, rfl, ho0, ho1, ho2, hb⟩
   refine ⟨_, rfl, ?_⟩
   have HO286 := Aside0.mk (Kd.R_lower ho0 (below_size (be2x9 HB.out GE277.out GE278.out)))
   have HO289 := Aside0.mk (Kd.R_lower ho1 (below_size (be2x9 HB.out GE277.out GE278.out)))
   have HO292 := Aside0.mk (Kd.R_lower ho2 (below_size (be2x9 HB.out GE277.out GE278.out)))
   replace BK277 := Aside0.mk (blk_below (rBx9 BK277.out) hb)
   replace BK278 := Aside0.mk (blk_below (rBx9 BK278.out) hb)
   replace HB := Aside0.mk (below_step (be2x9 HB.out GE277.out GE278.out) hb)
   (try clear hb)
   (try clear hb2)
   (try clear hk)
   (try clear hi)
   (try clear ho0)
   (try clear ho1)
   (try clear ho2)
   refine hK.out _ _ (ca6x9 BK277.out (cc6x9 BK278.out)) (fun hHeld => ?_)
   clear hK K
   refine norm_ (a' := ?_) ?_ ?_
   rotate_left
   ·show Act.put _ (some 29) _ = _
    simp only [Act.put, List.setIfInBounds_toArray, List.set_cons_zero, List.set_cons_succ, i64_w, i32_w]
    rfl
   refine one_ (i := 3) (N := some 31) #[true, true, true, true, false, false, false, false, false, false] rfl rfl (one_of HT_.out (by kernel_rfl)) (by decide) (fun K hK => ?_)
   refine goes_ Try.func19 (by kernel_rfl) rfl #[.agg #[.int .i64 a1_0, .int .i64 a1_1, .int .i64 a1_2, .slice A1_3 l1_3.length c1_3, .slice A1_4 l1_4.length c1_4, .slice A1_5 l1_5.length c1_5]] (by rfl) rfl rfl mpx9 ?_
   with_reducible refine (laws_toModel.calls k a1_0 a1_1 a1_2 _ _ l1_3 _ _ l1_4 _ _ l1_5 t293 t294 t295 t296 t299 t302 _ ?side1 ?side2 ?side3 ?side4 ?side5 ?side6 A20.out).mono ?_
   (case side1 => exact rCx9 (Kd.C_below HR1_3.out HB.out))
   (case side2 => exact HC1_3.out)
   (case side3 => exact rCx9 (Kd.C_below HR1_4.out HB.out))
   (case side4 => exact HC1_4.out)
   (case side5 => exact rCx9 (Kd.C_below HR1_5.out HB.out))
   (case side6 => exact HC1_5.out)
   rintro e w35 ⟨v297, v300, v303, rfl, ho0, ho1, ho2, hb⟩
   refine ⟨_, rfl, ?_⟩
   have HO298 := Aside0.mk (Kd.R_lower (nwx9 (nwx9 (nwx9 ho0 (rRx9 HO286.out)) (rRx9 HO289.out)) (rRx9 HO292.out)) (below_size (be2x9 HB.out GE277.out GE278.out)))
   have HO301 := Aside0.mk (Kd.R_lower (nwx9 (nwx9 (nwx9 ho1 (rRx9 HO286.out)) (rRx9 HO289.out)) (rRx9 HO292.out)) (below_size (be2x9 HB.out GE277.out GE278.out)))
   have HO304 := Aside0.mk (Kd.R_lower (nwx9 (nwx9 (nwx9 ho2 (rRx9 HO286.out)) (rRx9 HO289.out)) (rRx9 HO292.out)) (below_size (be2x9 HB.out GE277.out GE278.out)))
   replace HO286 := Aside0.mk (kp3x9 (rRx9 HO286.out) hb ho0 ho1 ho2)
   replace HO289 := Aside0.mk (kp3x9 (rRx9 HO289.out) hb ho0 ho1 ho2)
   replace HO292 := Aside0.mk (kp3x9 (rRx9 HO292.out) hb ho0 ho1 ho2)
   replace BK277 := Aside0.mk (blk_below (rBx9 BK277.out) hb)
   replace BK278 := Aside0.mk (blk_below (rBx9 BK278.out) hb)
   replace HB := Aside0.mk (below_step (be2x9 HB.out GE277.out GE278.out) hb)
   (try clear hb)
   (try clear hb2)
   (try clear hk)
   (try clear hi)
   (try clear ho0)
   (try clear ho1)
   (try clear ho2)
   obtain ⟨Ao36, co36, eo36⟩ := Kd.R_slice HO286.out
   (first | subst eo36 | (injection eo36 with f1_ f2_ f3_; have f4_ := f1_.symm; have f5_ := f3_.symm; clear f1_ f2_ f3_; subst f4_; subst f5_))
   obtain ⟨Ao37, co37, eo37⟩ := Kd.R_slice HO289.out
   (first | subst eo37 | (injection eo37 with f1_ f2_ f3_; have f4_ := f1_.symm; have f5_ := f3_.symm; clear f1_ f2_ f3_; subst f4_; subst f5_))
   obtain ⟨Ao38, co38, eo38⟩ := Kd.R_slice HO292.out
   (first | subst eo38 | (injection eo38 with f1_ f2_ f3_; have f4_ := f1_.symm; have f5_ := f3_.symm; clear f1_ f2_ f3_; subst f4_; subst f5_))
   obtain ⟨Ao39, co39, eo39⟩ := Kd.R_slice HO298.out
   (first | subst eo39 | (injection eo39 with f1_ f2_ f3_; have f4_ := f1_.symm; have f5_ := f3_.symm; clear f1_ f2_ f3_; subst f4_; subst f5_))
   obtain ⟨Ao40, co40, eo40⟩ := Kd.R_slice HO301.out
   (first | subst eo40 | (injection eo40 with f1_ f2_ f3_; have f4_ := f1_.symm; have f5_ := f3_.symm; clear f1_ f2_ f3_; subst f4_; subst f5_))
   obtain ⟨Ao41, co41, eo41⟩ := Kd.R_slice HO304.out
   (first | subst eo41 | (injection eo41 with f1_ f2_ f3_; have f4_ := f1_.symm; have f5_ := f3_.symm; clear f1_ f2_ f3_; subst f4_; subst f5_))
   refine hK.out _ _ (ca6x9 BK277.out (cc6x9 BK278.out)) (fun hHeld => ?_)
   clear hK K
   refine norm_ (a' := ?_) ?_ ?_
   rotate_left
   ·show Act.put _ (some 31) _ = _
    simp only [Act.put, List.setIfInBounds_toArray, List.set_cons_zero, List.set_cons_succ, i64_w, i32_w]
    rfl
   refine one_ (i := 4) (N := some 32) #[true, true, true, true, true, false, false, false, false, false] rfl rfl (one_of HT_.out (by kernel_rfl)) (by decide) (fun K hK => ?_)
   refine goes_ Try.func50 (by kernel_rfl) rfl #[.agg #[.int .i64 t281, .int .i64 t282, .int .i64 t283, .slice Ao36 t284.length co36, .slice Ao37 t287.length co37, .slice Ao38 t290.length co38], .agg #[.int .i64 t293, .int .i64 t294, .int .i64 t295, .slice Ao39 t296.length co39, .slice Ao40 t299.length co40, .slice Ao41 t302.length co41]] (by rfl) rfl rfl mpx9 ?_
   with_reducible refine (spec_LevelGaps.calls k t281 t282 t283 _ _ t284 _ _ t287 _ _ t290 t293 t294 t295 _ _ t296 _ _ t299 _ _ t302 t305 t308 _ ?side1 ?side2 ?side3 ?side4 ?side5 ?side6 ?side7 ?side8 ?side9 ?side10 ?side11 ?side12 A21.out).mono ?_
   (case side1 => exact cRx9 HO286.out)
   (case side2 => exact (Kd.R_reads' HO286.out).2.1)
   (case side3 => exact cRx9 HO289.out)
   (case side4 => exact (Kd.R_reads' HO289.out).2.1)
   (case side5 => exact cRx9 HO292.out)
   (case side6 => exact (Kd.R_reads' HO292.out).2.1)
   (case side7 => exact cRx9 HO298.out)
   (case side8 => exact (Kd.R_reads' HO298.out).2.1)
   (case side9 => exact cRx9 HO301.out)
   (case side10 => exact (Kd.R_reads' HO301.out).2.1)
   (case side11 => exact cRx9 HO304.out)
   (case side12 => exact (Kd.R_reads' HO304.out).2.1)
   rintro e w42 ⟨v306, rfl, ho0, hb⟩
   refine ⟨_, rfl, ?_⟩
   have HO307 := Aside0.mk (Kd.S_lower (Kd.S_new' (Kd.S_new' (Kd.S_new' (Kd.S_new' (Kd.S_new' (Kd.S_new' ho0 (Kd.R_lt (rRx9 HO286.out))) (Kd.R_lt (rRx9 HO289.out))) (Kd.R_lt (rRx9 HO292.out))) (Kd.R_lt (rRx9 HO298.out))) (Kd.R_lt (rRx9 HO301.out))) (Kd.R_lt (rRx9 HO304.out))) (below_size (be2x9 HB.out GE277.out GE278.out)))
   replace HO286 := Aside0.mk (Kd.R_below (rRx9 HO286.out) hb)
   replace HO289 := Aside0.mk (Kd.R_below (rRx9 HO289.out) hb)
   replace HO292 := Aside0.mk (Kd.R_below (rRx9 HO292.out) hb)
   replace HO298 := Aside0.mk (Kd.R_below (rRx9 HO298.out) hb)
   replace HO301 := Aside0.mk (Kd.R_below (rRx9 HO301.out) hb)
   replace HO304 := Aside0.mk (Kd.R_below (rRx9 HO304.out) hb)
   replace BK277 := Aside0.mk (blk_below (rBx9 BK277.out) hb)
   replace BK278 := Aside0.mk (blk_below (rBx9 BK278.out) hb)
   replace HB := Aside0.mk (below_step (be2x9 HB.out GE277.out GE278.out) hb)
   (try clear hb)
   (try clear hb2)
   (try clear hk)
   (try clear hi)
   (try clear ho0)
   refine hK.out _ _ (ca6x9 BK277.out (cc6x9 BK278.out)) (fun hHeld => ?_)
   clear hK K
   refine norm_ (a' := ?_) ?_ ?_
   rotate_left
   ·show Act.put _ (some 32) _ = _
    simp only [Act.put, List.setIfInBounds_toArray, List.set_cons_zero, List.set_cons_succ, i64_w, i32_w]
    rfl
   refine pure_ (i := 5) (N := some 27) (v := ?_) (a' := ?_) #[true, true, true, true, true, true, false, false, false, false] rfl rfl (any_of HT_.out (by kernel_rfl)) (fun _ _ _ h => h) (Or.inl ⟨by rfl, ?_⟩) ?_ ?_
   rotate_left
   ·intro w'
    go_simp
    with_reducible rfl
   rotate_left
   ·simp only [Act.put, List.setIfInBounds_toArray, List.set_cons_zero, List.set_cons_succ, i64_w, i32_w]
    rfl
   refine pure_ (i := 6) (N := some 33) (v := ?_) (a' := ?_) #[true, true, true, true, true, true, true, false, false, false] rfl rfl (any_of HT_.out (by kernel_rfl)) (fun _ _ _ h => h) (Or.inl ⟨by rfl, ?_⟩) ?_ ?_
   rotate_left
   ·intro w'
    go_simp
    with_reducible rfl
   rotate_left
   ·simp only [Act.put, List.setIfInBounds_toArray, List.set_cons_zero, List.set_cons_succ, i64_w, i32_w]
    rfl
   refine pure_ (i := 7) (N := some 34) (v := ?_) (a' := ?_) #[true, true, true, true, true, true, true, true, false, false] rfl rfl (any_of HT_.out (by kernel_rfl)) (fun _ _ _ h => h) (Or.inl ⟨by rfl, ?_⟩) ?_ ?_
   rotate_left
   ·intro w'
    go_simp
    with_reducible rfl
   rotate_left
   ·simp only [Act.put, List.setIfInBounds_toArray, List.set_cons_zero, List.set_cons_succ, i64_w, i32_w]
    rfl
   refine pure_ (i := 8) (N := some 6) (v := ?_) (a' := ?_) #[true, true, true, true, true, true, true, true, true, false] rfl rfl (any_of HT_.out (by kernel_rfl)) (fun _ _ _ h => h) (Or.inl ⟨by rfl, ?_⟩) ?_ ?_
   rotate_left
   ·intro w'
    go_simp
    with_reducible rfl
   rotate_left
   ·simp only [Act.put, List.setIfInBounds_toArray, List.set_cons_zero, List.set_cons_succ, i64_w, i32_w]
    rfl
   refine pure_ (i := 9) (N := some 7) (v := ?_) (a' := ?_) #[true, true, true, true, true, true, true, true, true, true] rfl rfl (any_of HT_.out (by kernel_rfl)) (fun _ _ _ h => h) (Or.inl ⟨by rfl, ?_⟩) ?_ ?_
   rotate_left
   ·intro w'
    go_simp
    with_reducible rfl
   rotate_left
   ·simp only [Act.put, List.setIfInBounds_toArray, List.set_cons_zero, List.set_cons_succ, i64_w, i32_w]
    rfl
   refine done_ (done_of HT_.out (by kernel_rfl)) ?_
   obtain ⟨hcz43_0, hcz43_1, hcz43_2, hcz43_3, hcz43_4, hcz43_5, hfz43_0, hfz43_1, hfz43_2, hfz43_3, hfz43_4, hfz43_5⟩ := cf6x9 BK277.out
   go_upto_region 12 with (first | ((with_reducible refine gate_callee (f := 19) rfl ?_); refine goesL_ (some 36) rfl rfl Try.func19 (by kernel_rfl) rfl #[.agg #[.int .i64 a0_0, .int .i64 a0_1, .int .i64 a0_2, .slice A0_3 l0_3.length c0_3, .slice A0_4 l0_4.length c0_4, .slice A0_5 l0_5.length c0_5]] rfl mpx9 ?_; (with_reducible refine (laws_toModel.calls k a0_0 a0_1 a0_2 _ _ l0_3 _ _ l0_4 _ _ l0_5 t309 t310 t311 t312 t315 t318 _ ?side1 ?side2 ?side3 ?side4 ?side5 ?side6 A22.out).mono ?_); (case side1 => exact rCx9 (Kd.C_below HR0_3.out HB.out)); (case side2 => exact HC0_3.out); (case side3 => exact rCx9 (Kd.C_below HR0_4.out HB.out)); (case side4 => exact HC0_4.out); (case side5 => exact rCx9 (Kd.C_below HR0_5.out HB.out)); (case side6 => exact HC0_5.out); rintro e w44 ⟨v313, v316, v319, rfl, ho0, ho1, ho2, hb⟩; refine ⟨_, rfl, ?_⟩; replace HO307 := Aside0.mk (Kd.S_mono (Kd.S_told (Kd.S_told (Kd.S_told (Kd.S_old (rSx9 HO307.out) hb) (Kd.R_base ho0)) (Kd.R_base ho1)) (Kd.R_base ho2)) (fun _ h_ => h_.1)); have HO314 := Aside0.mk (Kd.R_lower (nwx9 (nwx9 (nwx9 (nwx9 (nwx9 (nwx9 ho0 (rRx9 HO286.out)) (rRx9 HO289.out)) (rRx9 HO292.out)) (rRx9 HO298.out)) (rRx9 HO301.out)) (rRx9 HO304.out)) (below_size (be2x9 HB.out GE277.out GE278.out))); have HO317 := Aside0.mk (Kd.R_lower (nwx9 (nwx9 (nwx9 (nwx9 (nwx9 (nwx9 ho1 (rRx9 HO286.out)) (rRx9 HO289.out)) (rRx9 HO292.out)) (rRx9 HO298.out)) (rRx9 HO301.out)) (rRx9 HO304.out)) (below_size (be2x9 HB.out GE277.out GE278.out))); have HO320 := Aside0.mk (Kd.R_lower (nwx9 (nwx9 (nwx9 (nwx9 (nwx9 (nwx9 ho2 (rRx9 HO286.out)) (rRx9 HO289.out)) (rRx9 HO292.out)) (rRx9 HO298.out)) (rRx9 HO301.out)) (rRx9 HO304.out)) (below_size (be2x9 HB.out GE277.out GE278.out))); replace HO286 := Aside0.mk (kp3x9 (rRx9 HO286.out) hb ho0 ho1 ho2); replace HO289 := Aside0.mk (kp3x9 (rRx9 HO289.out) hb ho0 ho1 ho2); replace HO292 := Aside0.mk (kp3x9 (rRx9 HO292.out) hb ho0 ho1 ho2); replace HO298 := Aside0.mk (kp3x9 (rRx9 HO298.out) hb ho0 ho1 ho2); replace HO301 := Aside0.mk (kp3x9 (rRx9 HO301.out) hb ho0 ho1 ho2); replace HO304 := Aside0.mk (kp3x9 (rRx9 HO304.out) hb ho0 ho1 ho2); replace BK277 := Aside0.mk (blk_below (rBx9 BK277.out) hb); replace BK278 := Aside0.mk (blk_below (rBx9 BK278.out) hb); replace HB := Aside0.mk (below_step (be2x9 HB.out GE277.out GE278.out) hb); (try clear hb); (try clear hb2); (try clear hk); (try clear hi); (try clear ho0); (try clear ho1); (try clear ho2)) | ((with_reducible refine gate_dst (N := 8) rfl ?_); refine box_event ?hg (N := 8) ?hd (cs := #[.int .i64 0, .int .i64 0, .int .i64 0, .slice none 0 0, .slice none 0 0, .slice none 0 0]) (t := 41) ?hr ?_; (case hd => rfl); (case hg => rfl); (case hr => first | (go_simp; done) | (go_simp; rfl)); intro gb321 hg w45 hbox hb; replace HO286 := Aside0.mk (Kd.R_below (rRx9 HO286.out) hb); replace HO289 := Aside0.mk (Kd.R_below (rRx9 HO289.out) hb); replace HO292 := Aside0.mk (Kd.R_below (rRx9 HO292.out) hb); replace HO298 := Aside0.mk (Kd.R_below (rRx9 HO298.out) hb); replace HO301 := Aside0.mk (Kd.R_below (rRx9 HO301.out) hb); replace HO304 := Aside0.mk (Kd.R_below (rRx9 HO304.out) hb); replace HO307 := Aside0.mk (Kd.S_below (rSx9 HO307.out) hb); replace HO314 := Aside0.mk (Kd.R_below (rRx9 HO314.out) hb); replace HO317 := Aside0.mk (Kd.R_below (rRx9 HO317.out) hb); replace HO320 := Aside0.mk (Kd.R_below (rRx9 HO320.out) hb); have BK321 := Aside0.mk (hbox); have GW321 := Aside0.mk ((by rw [hg]; exact (below_size (be2x9 HB.out GE277.out GE278.out)) : w.heap.size ≤ gb321)); have GE321 := Aside0.mk ((by rw [hg]; exact (below_size (be2x9 HB.out GE277.out GE278.out)) : w.heap.size ≤ gb321)); replace HB := Aside0.mk (below_step (be2x9 HB.out GE277.out GE278.out) hb); have NB277_321 := Aside0.mk ((by rw [hg]; exact Nat.ne_of_lt (blk_lt (rBx9 BK277.out)) : gb277 ≠ gb321)); have NB321_277 := Aside0.mk ((by rw [hg]; exact Nat.ne_of_gt (blk_lt (rBx9 BK277.out)) : gb321 ≠ gb277)); replace BK277 := Aside0.mk (blk_below (rBx9 BK277.out) hb); have NB278_321 := Aside0.mk ((by rw [hg]; exact Nat.ne_of_lt (blk_lt (rBx9 BK278.out)) : gb278 ≠ gb321)); have NB321_278 := Aside0.mk ((by rw [hg]; exact Nat.ne_of_gt (blk_lt (rBx9 BK278.out)) : gb321 ≠ gb278)); replace BK278 := Aside0.mk (blk_below (rBx9 BK278.out) hb); clear hb hbox hg; have hnb46 := NB321_277.out; have hnc46 := NB277_321.out; have hnb47 := NB321_278.out; have hnc47 := NB278_321.out; obtain ⟨hcz48_0, hcz48_1, hcz48_2, hcz48_3, hcz48_4, hcz48_5, hfz48_0, hfz48_1, hfz48_2, hfz48_3, hfz48_4, hfz48_5⟩ := cf6x9 BK321.out; obtain ⟨Ao49, co49, eo49⟩ := Kd.R_slice HO314.out; subst eo49; obtain ⟨Ao50, co50, eo50⟩ := Kd.R_slice HO317.out; subst eo50; obtain ⟨Ao51, co51, eo51⟩ := Kd.R_slice HO320.out; subst eo51; obtain ⟨hcz52_0, hcz52_1, hcz52_2, hcz52_3, hcz52_4, hcz52_5, hfz52_0, hfz52_1, hfz52_2, hfz52_3, hfz52_4, hfz52_5⟩ := cf6x9 BK278.out) | ((with_reducible refine gate_callee (f := 19) rfl ?_); refine goesL_ (some 38) rfl rfl Try.func19 (by kernel_rfl) rfl #[.agg #[.int .i64 a1_0, .int .i64 a1_1, .int .i64 a1_2, .slice A1_3 l1_3.length c1_3, .slice A1_4 l1_4.length c1_4, .slice A1_5 l1_5.length c1_5]] rfl mpx9 ?_; (with_reducible refine (laws_toModel.calls k a1_0 a1_1 a1_2 _ _ l1_3 _ _ l1_4 _ _ l1_5 t322 t323 t324 t325 t328 t331 _ ?side1 ?side2 ?side3 ?side4 ?side5 ?side6 A23.out).mono ?_); (case side1 => exact Kd.C_below HR1_3.out (be3x9 HB.out GE277.out GE278.out GE321.out)); (case side2 => exact HC1_3.out); (case side3 => exact Kd.C_below HR1_4.out (be3x9 HB.out GE277.out GE278.out GE321.out)); (case side4 => exact HC1_4.out); (case side5 => exact Kd.C_below HR1_5.out (be3x9 HB.out GE277.out GE278.out GE321.out)); (case side6 => exact HC1_5.out); rintro e w53 ⟨v326, v329, v332, rfl, ho0, ho1, ho2, hb⟩; refine ⟨_, rfl, ?_⟩; replace HO307 := Aside0.mk (Kd.S_mono (Kd.S_told (Kd.S_told (Kd.S_told (Kd.S_old (by (with_reducible repeat (first | apply Kd.S_alloc | apply Kd.S_drewN | apply Kd.S_drew)); exact (Kd.S_mono (Kd.S_far (p := ⟨gb321, 5, none⟩) (Kd.S_far (p := ⟨gb321, 4, none⟩) (Kd.S_far (p := ⟨gb321, 3, none⟩) (Kd.S_far (p := ⟨gb321, 2, none⟩) (Kd.S_far (p := ⟨gb321, 1, none⟩) (Kd.S_far (p := ⟨gb321, 0, none⟩) (Kd.S_types HO307.out BK321.out (by decide)) (fun _ hk => hk.2) (.int .i64 t309)) (fun _ hk => hk.2) (.int .i64 t310)) (fun _ hk => hk.2) (.int .i64 t311)) (fun _ hk => hk.2) (.slice Ao49 t312.length co49)) (fun _ hk => hk.2) (.slice Ao50 t315.length co50)) (fun _ hk => hk.2) (.slice Ao51 t318.length co51)) (fun _ h_ => h_.1))) hb) (Kd.R_base ho0)) (Kd.R_base ho1)) (Kd.R_base ho2)) (fun _ h_ => h_.1)); have HO327 := Aside0.mk (Kd.R_lower (nwx9 (nwx9 (nwx9 (nwx9 (nwx9 (nwx9 (nwx9 (nwx9 (nwx9 ho0 (sR6x9 HO286.out BK321.out)) (sR6x9 HO289.out BK321.out)) (sR6x9 HO292.out BK321.out)) (sR6x9 HO298.out BK321.out)) (sR6x9 HO301.out BK321.out)) (sR6x9 HO304.out BK321.out)) (sR6x9 HO314.out BK321.out)) (sR6x9 HO317.out BK321.out)) (sR6x9 HO320.out BK321.out)) (below_size (be3x9 HB.out GE277.out GE278.out GE321.out))); have HO330 := Aside0.mk (Kd.R_lower (nwx9 (nwx9 (nwx9 (nwx9 (nwx9 (nwx9 (nwx9 (nwx9 (nwx9 ho1 (sR6x9 HO286.out BK321.out)) (sR6x9 HO289.out BK321.out)) (sR6x9 HO292.out BK321.out)) (sR6x9 HO298.out BK321.out)) (sR6x9 HO301.out BK321.out)) (sR6x9 HO304.out BK321.out)) (sR6x9 HO314.out BK321.out)) (sR6x9 HO317.out BK321.out)) (sR6x9 HO320.out BK321.out)) (below_size (be3x9 HB.out GE277.out GE278.out GE321.out))); have HO333 := Aside0.mk (Kd.R_lower (nwx9 (nwx9 (nwx9 (nwx9 (nwx9 (nwx9 (nwx9 (nwx9 (nwx9 ho2 (sR6x9 HO286.out BK321.out)) (sR6x9 HO289.out BK321.out)) (sR6x9 HO292.out BK321.out)) (sR6x9 HO298.out BK321.out)) (sR6x9 HO301.out BK321.out)) (sR6x9 HO304.out BK321.out)) (sR6x9 HO314.out BK321.out)) (sR6x9 HO317.out BK321.out)) (sR6x9 HO320.out BK321.out)) (below_size (be3x9 HB.out GE277.out GE278.out GE321.out))); replace HO286 := Aside0.mk (kp3x9 (sR6x9 HO286.out BK321.out) hb ho0 ho1 ho2); replace HO289 := Aside0.mk (kp3x9 (sR6x9 HO289.out BK321.out) hb ho0 ho1 ho2); replace HO292 := Aside0.mk (kp3x9 (sR6x9 HO292.out BK321.out) hb ho0 ho1 ho2); replace HO298 := Aside0.mk (kp3x9 (sR6x9 HO298.out BK321.out) hb ho0 ho1 ho2); replace HO301 := Aside0.mk (kp3x9 (sR6x9 HO301.out BK321.out) hb ho0 ho1 ho2); replace HO304 := Aside0.mk (kp3x9 (sR6x9 HO304.out BK321.out) hb ho0 ho1 ho2); replace HO314 := Aside0.mk (kp3x9 (sR6x9 HO314.out BK321.out) hb ho0 ho1 ho2); replace HO317 := Aside0.mk (kp3x9 (sR6x9 HO317.out BK321.out) hb ho0 ho1 ho2); replace HO320 := Aside0.mk (kp3x9 (sR6x9 HO320.out BK321.out) hb ho0 ho1 ho2); replace BK277 := Aside0.mk (blk_below (bb6x9 BK277.out NB277_321.out) hb); replace BK278 := Aside0.mk (blk_below (bb6x9 BK278.out NB278_321.out) hb); replace BK321 := Aside0.mk (blk_below (g := gb321) (o := .cells #[.int .i64 t309, .int .i64 t310, .int .i64 t311, .slice Ao49 t312.length co49, .slice Ao50 t315.length co50, .slice Ao51 t318.length co51] 41 (0, 0)) (by (with_reducible repeat (first | refine blk_drewN ?_ _ | refine blk_drew ?_ | refine blk_alloc ?_ _)); refine blk_put (cs := #[.int .i64 t309, .int .i64 t310, .int .i64 t311, .slice Ao49 t312.length co49, .slice Ao50 t315.length co50, .slice none 0 0]) ?_ 5 _ rfl; (with_reducible repeat (first | refine blk_drewN ?_ _ | refine blk_drew ?_ | refine blk_alloc ?_ _)); refine blk_put (cs := #[.int .i64 t309, .int .i64 t310, .int .i64 t311, .slice Ao49 t312.length co49, .slice none 0 0, .slice none 0 0]) ?_ 4 _ rfl; (with_reducible repeat (first | refine blk_drewN ?_ _ | refine blk_drew ?_ | refine blk_alloc ?_ _)); refine blk_put (cs := #[.int .i64 t309, .int .i64 t310, .int .i64 t311, .slice none 0 0, .slice none 0 0, .slice none 0 0]) ?_ 3 _ rfl; (with_reducible repeat (first | refine blk_drewN ?_ _ | refine blk_drew ?_ | refine blk_alloc ?_ _)); refine blk_put (cs := #[.int .i64 t309, .int .i64 t310, .int .i64 0, .slice none 0 0, .slice none 0 0, .slice none 0 0]) ?_ 2 _ rfl; (with_reducible repeat (first | refine blk_drewN ?_ _ | refine blk_drew ?_ | refine blk_alloc ?_ _)); refine blk_put (cs := #[.int .i64 t309, .int .i64 0, .int .i64 0, .slice none 0 0, .slice none 0 0, .slice none 0 0]) ?_ 1 _ rfl; (with_reducible repeat (first | refine blk_drewN ?_ _ | refine blk_drew ?_ | refine blk_alloc ?_ _)); refine blk_put (cs := #[.int .i64 0, .int .i64 0, .int .i64 0, .slice none 0 0, .slice none 0 0, .slice none 0 0]) ?_ 0 _ rfl; (with_reducible repeat (first | refine blk_drewN ?_ _ | refine blk_drew ?_ | refine blk_alloc ?_ _)); exact BK321.out) hb); replace HB := Aside0.mk (below_step (be3x9 HB.out GE277.out GE278.out GE321.out) hb); (try clear hb); (try clear hb2); (try clear hk); (try clear hi); (try clear ho0); (try clear ho1); (try clear ho2)) | ((with_reducible refine gate_dst (N := 9) rfl ?_); refine box_event ?hg (N := 9) ?hd (cs := #[.int .i64 0, .int .i64 0, .int .i64 0, .slice none 0 0, .slice none 0 0, .slice none 0 0]) (t := 41) ?hr ?_; (case hd => rfl); (case hg => rfl); (case hr => first | (go_simp; done) | (go_simp; rfl)); intro gb334 hg w54 hbox hb; replace HO286 := Aside0.mk (Kd.R_below (rRx9 HO286.out) hb); replace HO289 := Aside0.mk (Kd.R_below (rRx9 HO289.out) hb); replace HO292 := Aside0.mk (Kd.R_below (rRx9 HO292.out) hb); replace HO298 := Aside0.mk (Kd.R_below (rRx9 HO298.out) hb); replace HO301 := Aside0.mk (Kd.R_below (rRx9 HO301.out) hb); replace HO304 := Aside0.mk (Kd.R_below (rRx9 HO304.out) hb); replace HO307 := Aside0.mk (Kd.S_below (rSx9 HO307.out) hb); replace HO314 := Aside0.mk (Kd.R_below (rRx9 HO314.out) hb); replace HO317 := Aside0.mk (Kd.R_below (rRx9 HO317.out) hb); replace HO320 := Aside0.mk (Kd.R_below (rRx9 HO320.out) hb); replace HO327 := Aside0.mk (Kd.R_below (rRx9 HO327.out) hb); replace HO330 := Aside0.mk (Kd.R_below (rRx9 HO330.out) hb); replace HO333 := Aside0.mk (Kd.R_below (rRx9 HO333.out) hb); have BK334 := Aside0.mk (hbox); have GW334 := Aside0.mk ((by rw [hg]; exact (below_size (be3x9 HB.out GE277.out GE278.out GE321.out)) : w.heap.size ≤ gb334)); have GE334 := Aside0.mk ((by rw [hg]; exact (below_size (be3x9 HB.out GE277.out GE278.out GE321.out)) : w.heap.size ≤ gb334)); replace HB := Aside0.mk (below_step (be3x9 HB.out GE277.out GE278.out GE321.out) hb); have NB277_334 := Aside0.mk ((by rw [hg]; exact Nat.ne_of_lt (blk_lt (rBx9 BK277.out)) : gb277 ≠ gb334)); have NB334_277 := Aside0.mk ((by rw [hg]; exact Nat.ne_of_gt (blk_lt (rBx9 BK277.out)) : gb334 ≠ gb277)); replace BK277 := Aside0.mk (blk_below (rBx9 BK277.out) hb); have NB278_334 := Aside0.mk ((by rw [hg]; exact Nat.ne_of_lt (blk_lt (rBx9 BK278.out)) : gb278 ≠ gb334)); have NB334_278 := Aside0.mk ((by rw [hg]; exact Nat.ne_of_gt (blk_lt (rBx9 BK278.out)) : gb334 ≠ gb278)); replace BK278 := Aside0.mk (blk_below (rBx9 BK278.out) hb); have NB321_334 := Aside0.mk ((by rw [hg]; exact Nat.ne_of_lt (blk_lt (rBx9 BK321.out)) : gb321 ≠ gb334)); have NB334_321 := Aside0.mk ((by rw [hg]; exact Nat.ne_of_gt (blk_lt (rBx9 BK321.out)) : gb334 ≠ gb321)); replace BK321 := Aside0.mk (blk_below (rBx9 BK321.out) hb); clear hb hbox hg; have hnb55 := NB334_277.out; have hnc55 := NB277_334.out; have hnb56 := NB334_278.out; have hnc56 := NB278_334.out; have hnb57 := NB334_321.out; have hnc57 := NB321_334.out; obtain ⟨hcz58_0, hcz58_1, hcz58_2, hcz58_3, hcz58_4, hcz58_5, hfz58_0, hfz58_1, hfz58_2, hfz58_3, hfz58_4, hfz58_5⟩ := cf6x9 BK334.out; obtain ⟨Ao59, co59, eo59⟩ := Kd.R_slice HO327.out; subst eo59; obtain ⟨Ao60, co60, eo60⟩ := Kd.R_slice HO330.out; subst eo60; obtain ⟨Ao61, co61, eo61⟩ := Kd.R_slice HO333.out; subst eo61; obtain ⟨hcz62_0, hcz62_1, hcz62_2, hcz62_3, hcz62_4, hcz62_5, hfz62_0, hfz62_1, hfz62_2, hfz62_3, hfz62_4, hfz62_5⟩ := cf6x9 BK321.out) | ((with_reducible refine gate_callee (f := 51) rfl ?_); refine goesL_ (some 42) rfl rfl Try.func51 (by kernel_rfl) rfl #[.agg #[.int .i64 t309, .int .i64 t310, .int .i64 t311, .slice Ao49 t312.length co49, .slice Ao50 t315.length co50, .slice Ao51 t318.length co51], .agg #[.int .i64 t322, .int .i64 t323, .int .i64 t324, .slice Ao59 t325.length co59, .slice Ao60 t328.length co60, .slice Ao61 t331.length co61]] rfl mpx9 ?_; (with_reducible refine (impl_LevelGaps.calls k t309 t310 t311 _ _ t312 _ _ t315 _ _ t318 t322 t323 t324 _ _ t325 _ _ t328 _ _ t331 t335 t338 _ ?side1 ?side2 ?side3 ?side4 ?side5 ?side6 ?side7 ?side8 ?side9 ?side10 ?side11 ?side12 A24.out).mono ?_); (case side1 => exact cS6x9 HO314.out BK334.out); (case side2 => exact (Kd.R_reads' HO314.out).2.1); (case side3 => exact cS6x9 HO317.out BK334.out); (case side4 => exact (Kd.R_reads' HO317.out).2.1); (case side5 => exact cS6x9 HO320.out BK334.out); (case side6 => exact (Kd.R_reads' HO320.out).2.1); (case side7 => exact cS6x9 HO327.out BK334.out); (case side8 => exact (Kd.R_reads' HO327.out).2.1); (case side9 => exact cS6x9 HO330.out BK334.out); (case side10 => exact (Kd.R_reads' HO330.out).2.1); (case side11 => exact cS6x9 HO333.out BK334.out); (case side12 => exact (Kd.R_reads' HO333.out).2.1); rintro e w63 ⟨v336, rfl, ho0, hb⟩; refine ⟨_, rfl, ?_⟩; obtain ⟨N_, hN_⟩ := age_of ho0; replace ho0 := age_new hN_ ho0; have HO337 := Aside0.mk (Kd.S_lower (Kd.S_new' (Kd.S_new' (Kd.S_new' (Kd.S_new' (Kd.S_new' (Kd.S_new' (Kd.S_new' (Kd.S_new' (Kd.S_new' (Kd.S_new' (Kd.S_new' (Kd.S_new' (Kd.S_new' ho0 (Kd.R_lt (sR6x9 HO286.out BK334.out))) (Kd.R_lt (sR6x9 HO289.out BK334.out))) (Kd.R_lt (sR6x9 HO292.out BK334.out))) (Kd.R_lt (sR6x9 HO298.out BK334.out))) (Kd.R_lt (sR6x9 HO301.out BK334.out))) (Kd.R_lt (sR6x9 HO304.out BK334.out))) (Kd.S_lt (by (with_reducible repeat (first | apply Kd.S_alloc | apply Kd.S_drewN | apply Kd.S_drew)); exact (Kd.S_mono (Kd.S_far (p := ⟨gb334, 5, none⟩) (Kd.S_far (p := ⟨gb334, 4, none⟩) (Kd.S_far (p := ⟨gb334, 3, none⟩) (Kd.S_far (p := ⟨gb334, 2, none⟩) (Kd.S_far (p := ⟨gb334, 1, none⟩) (Kd.S_far (p := ⟨gb334, 0, none⟩) (Kd.S_types HO307.out BK334.out (by decide)) (fun _ hk => hk.2) (.int .i64 t322)) (fun _ hk => hk.2) (.int .i64 t323)) (fun _ hk => hk.2) (.int .i64 t324)) (fun _ hk => hk.2) (.slice Ao59 t325.length co59)) (fun _ hk => hk.2) (.slice Ao60 t328.length co60)) (fun _ hk => hk.2) (.slice Ao61 t331.length co61)) (fun _ h_ => h_.1))))) (Kd.R_lt (sR6x9 HO314.out BK334.out))) (Kd.R_lt (sR6x9 HO317.out BK334.out))) (Kd.R_lt (sR6x9 HO320.out BK334.out))) (Kd.R_lt (sR6x9 HO327.out BK334.out))) (Kd.R_lt (sR6x9 HO330.out BK334.out))) (Kd.R_lt (sR6x9 HO333.out BK334.out))) (below_size (be4x9 HB.out GE277.out GE278.out GE321.out GE334.out))); replace HO286 := Aside0.mk (Kd.R_below (sR6x9 HO286.out BK334.out) hb); replace HO289 := Aside0.mk (Kd.R_below (sR6x9 HO289.out BK334.out) hb); replace HO292 := Aside0.mk (Kd.R_below (sR6x9 HO292.out BK334.out) hb); replace HO298 := Aside0.mk (Kd.R_below (sR6x9 HO298.out BK334.out) hb); replace HO301 := Aside0.mk (Kd.R_below (sR6x9 HO301.out BK334.out) hb); replace HO304 := Aside0.mk (Kd.R_below (sR6x9 HO304.out BK334.out) hb); replace HO307 := Aside0.mk (age_old hN_ (by (with_reducible repeat (first | apply Kd.S_alloc | apply Kd.S_drewN | apply Kd.S_drew)); exact (Kd.S_mono (Kd.S_far (p := ⟨gb334, 5, none⟩) (Kd.S_far (p := ⟨gb334, 4, none⟩) (Kd.S_far (p := ⟨gb334, 3, none⟩) (Kd.S_far (p := ⟨gb334, 2, none⟩) (Kd.S_far (p := ⟨gb334, 1, none⟩) (Kd.S_far (p := ⟨gb334, 0, none⟩) (Kd.S_types HO307.out BK334.out (by decide)) (fun _ hk => hk.2) (.int .i64 t322)) (fun _ hk => hk.2) (.int .i64 t323)) (fun _ hk => hk.2) (.int .i64 t324)) (fun _ hk => hk.2) (.slice Ao59 t325.length co59)) (fun _ hk => hk.2) (.slice Ao60 t328.length co60)) (fun _ hk => hk.2) (.slice Ao61 t331.length co61)) (fun _ h_ => h_.1))) (Kd.S_base ho0) hb); replace HO314 := Aside0.mk (Kd.R_below (sR6x9 HO314.out BK334.out) hb); replace HO317 := Aside0.mk (Kd.R_below (sR6x9 HO317.out BK334.out) hb); replace HO320 := Aside0.mk (Kd.R_below (sR6x9 HO320.out BK334.out) hb); replace HO327 := Aside0.mk (Kd.R_below (sR6x9 HO327.out BK334.out) hb); replace HO330 := Aside0.mk (Kd.R_below (sR6x9 HO330.out BK334.out) hb); replace HO333 := Aside0.mk (Kd.R_below (sR6x9 HO333.out BK334.out) hb); replace BK277 := Aside0.mk (blk_below (bb6x9 BK277.out NB277_334.out) hb); replace BK278 := Aside0.mk (blk_below (bb6x9 BK278.out NB278_334.out) hb); replace BK321 := Aside0.mk (blk_below (bb6x9 BK321.out NB321_334.out) hb); replace BK334 := Aside0.mk (blk_below (g := gb334) (o := .cells #[.int .i64 t322, .int .i64 t323, .int .i64 t324, .slice Ao59 t325.length co59, .slice Ao60 t328.length co60, .slice Ao61 t331.length co61] 41 (0, 0)) (by (with_reducible repeat (first | refine blk_drewN ?_ _ | refine blk_drew ?_ | refine blk_alloc ?_ _)); refine blk_put (cs := #[.int .i64 t322, .int .i64 t323, .int .i64 t324, .slice Ao59 t325.length co59, .slice Ao60 t328.length co60, .slice none 0 0]) ?_ 5 _ rfl; (with_reducible repeat (first | refine blk_drewN ?_ _ | refine blk_drew ?_ | refine blk_alloc ?_ _)); refine blk_put (cs := #[.int .i64 t322, .int .i64 t323, .int .i64 t324, .slice Ao59 t325.length co59, .slice none 0 0, .slice none 0 0]) ?_ 4 _ rfl; (with_reducible repeat (first | refine blk_drewN ?_ _ | refine blk_drew ?_ | refine blk_alloc ?_ _)); refine blk_put (cs := #[.int .i64 t322, .int .i64 t323, .int .i64 t324, .slice none 0 0, .slice none 0 0, .slice none 0 0]) ?_ 3 _ rfl; (with_reducible repeat (first | refine blk_drewN ?_ _ | refine blk_drew ?_ | refine blk_alloc ?_ _)); refine blk_put (cs := #[.int .i64 t322, .int .i64 t323, .int .i64 0, .slice none 0 0, .slice none 0 0, .slice none 0 0]) ?_ 2 _ rfl; (with_reducible repeat (first | refine blk_drewN ?_ _ | refine blk_drew ?_ | refine blk_alloc ?_ _)); refine blk_put (cs := #[.int .i64 t322, .int .i64 0, .int .i64 0, .slice none 0 0, .slice none 0 0, .slice none 0 0]) ?_ 1 _ rfl; (with_reducible repeat (first | refine blk_drewN ?_ _ | refine blk_drew ?_ | refine blk_alloc ?_ _)); refine blk_put (cs := #[.int .i64 0, .int .i64 0, .int .i64 0, .slice none 0 0, .slice none 0 0, .slice none 0 0]) ?_ 0 _ rfl; (with_reducible repeat (first | refine blk_drewN ?_ _ | refine blk_drew ?_ | refine blk_alloc ?_ _)); exact BK334.out) hb); replace HB := Aside0.mk (below_step (be4x9 HB.out GE277.out GE278.out GE321.out GE334.out) hb); (try clear hb); (try clear hb2); (try clear hk); (try clear hi); (try clear ho0); (try clear hN_)))
   (try simp only [Act.put, List.setIfInBounds_toArray, List.set_cons_zero, List.set_cons_succ])
   go_cut [53] (fun v53 wc => ∃ (kq : Nat) (x53_24 : Bool), v53 = .bool x53_24 ∧ Aside0 (laws_FnExactLevelGaps.j0 kq t305 t308 t335 t338 x53_24 a0_0 a0_1 a0_2 l0_3 l0_4 l0_5 a1_0 a1_1 a1_2 l1_3 l1_4 l1_5 t309 t310 t311 t312 t315 t318 t322 t323 t324 t325 t328 t331 = some r) ∧ Aside0 (kq ≤ k) ∧ Aside0 (Kd.S (Kd.slice 3 (Kd.int .i64)) 24 wc w.heap.size (fun k_ => (some k_ ≠ (v336 : Value).ownBlock ∧ k_ < N_) ∧ some k_ ≠ ((.slice Ao49 t312.length co49) : Value).ownBlock ∧ some k_ ≠ ((.slice Ao50 t315.length co50) : Value).ownBlock ∧ some k_ ≠ ((.slice Ao51 t318.length co51) : Value).ownBlock ∧ some k_ ≠ ((.slice Ao59 t325.length co59) : Value).ownBlock ∧ some k_ ≠ ((.slice Ao60 t328.length co60) : Value).ownBlock ∧ some k_ ≠ ((.slice Ao61 t331.length co61) : Value).ownBlock) v306 t305) ∧ Aside0 (Kd.S (Kd.slice 3 (Kd.int .i64)) 24 wc w.heap.size (fun k_ => (some k_ ≠ (v306 : Value).ownBlock ∧ N_ ≤ k_) ∧ some k_ ≠ ((.slice Ao49 t312.length co49) : Value).ownBlock ∧ some k_ ≠ ((.slice Ao50 t315.length co50) : Value).ownBlock ∧ some k_ ≠ ((.slice Ao51 t318.length co51) : Value).ownBlock ∧ some k_ ≠ ((.slice Ao59 t325.length co59) : Value).ownBlock ∧ some k_ ≠ ((.slice Ao60 t328.length co60) : Value).ownBlock ∧ some k_ ≠ ((.slice Ao61 t331.length co61) : Value).ownBlock) v336 t335) ∧ Aside0 (Kd.R (Kd.int .i64) 3 wc w.heap.size (fun k_ => some k_ ≠ ((.slice Ao50 t315.length co50) : Value).ownBlock ∧ some k_ ≠ ((.slice Ao51 t318.length co51) : Value).ownBlock ∧ some k_ ≠ ((.slice Ao59 t325.length co59) : Value).ownBlock ∧ some k_ ≠ ((.slice Ao60 t328.length co60) : Value).ownBlock ∧ some k_ ≠ ((.slice Ao61 t331.length co61) : Value).ownBlock) (.slice Ao49 t312.length co49) t312) ∧ Aside0 (Kd.R (Kd.int .i64) 3 wc w.heap.size (fun k_ => some k_ ≠ ((.slice Ao49 t312.length co49) : Value).ownBlock ∧ some k_ ≠ ((.slice Ao51 t318.length co51) : Value).ownBlock ∧ some k_ ≠ ((.slice Ao59 t325.length co59) : Value).ownBlock ∧ some k_ ≠ ((.slice Ao60 t328.length co60) : Value).ownBlock ∧ some k_ ≠ ((.slice Ao61 t331.length co61) : Value).ownBlock) (.slice Ao50 t315.length co50) t315) ∧ Aside0 (Kd.R (Kd.int .i64) 3 wc w.heap.size (fun k_ => some k_ ≠ ((.slice Ao49 t312.length co49) : Value).ownBlock ∧ some k_ ≠ ((.slice Ao50 t315.length co50) : Value).ownBlock ∧ some k_ ≠ ((.slice Ao59 t325.length co59) : Value).ownBlock ∧ some k_ ≠ ((.slice Ao60 t328.length co60) : Value).ownBlock ∧ some k_ ≠ ((.slice Ao61 t331.length co61) : Value).ownBlock) (.slice Ao51 t318.length co51) t318) ∧ Aside0 (Kd.R (Kd.int .i64) 3 wc w.heap.size (fun k_ => some k_ ≠ ((.slice Ao49 t312.length co49) : Value).ownBlock ∧ some k_ ≠ ((.slice Ao50 t315.length co50) : Value).ownBlock ∧ some k_ ≠ ((.slice Ao51 t318.length co51) : Value).ownBlock ∧ some k_ ≠ ((.slice Ao60 t328.length co60) : Value).ownBlock ∧ some k_ ≠ ((.slice Ao61 t331.length co61) : Value).ownBlock) (.slice Ao59 t325.length co59) t325) ∧ Aside0 (Kd.R (Kd.int .i64) 3 wc w.heap.size (fun k_ => some k_ ≠ ((.slice Ao49 t312.length co49) : Value).ownBlock ∧ some k_ ≠ ((.slice Ao50 t315.length co50) : Value).ownBlock ∧ some k_ ≠ ((.slice Ao51 t318.length co51) : Value).ownBlock ∧ some k_ ≠ ((.slice Ao59 t325.length co59) : Value).ownBlock ∧ some k_ ≠ ((.slice Ao61 t331.length co61) : Value).ownBlock) (.slice Ao60 t328.length co60) t328) ∧ Aside0 (Kd.R (Kd.int .i64) 3 wc w.heap.size (fun k_ => some k_ ≠ ((.slice Ao49 t312.length co49) : Value).ownBlock ∧ some k_ ≠ ((.slice Ao50 t315.length co50) : Value).ownBlock ∧ some k_ ≠ ((.slice Ao51 t318.length co51) : Value).ownBlock ∧ some k_ ≠ ((.slice Ao59 t325.length co59) : Value).ownBlock ∧ some k_ ≠ ((.slice Ao60 t328.length co60) : Value).ownBlock) (.slice Ao61 t331.length co61) t331) ∧ Aside0 (wc.heap[gb277]? = some (.cells #[.int .i64 a0_0, .int .i64 a0_1, .int .i64 a0_2, (.slice A0_3 l0_3.length c0_3), (.slice A0_4 l0_4.length c0_4), (.slice A0_5 l0_5.length c0_5)] 26 (0, 0))) ∧ Aside0 (wc.heap[gb278]? = some (.cells #[.int .i64 a1_0, .int .i64 a1_1, .int .i64 a1_2, (.slice A1_3 l1_3.length c1_3), (.slice A1_4 l1_4.length c1_4), (.slice A1_5 l1_5.length c1_5)] 26 (0, 0))) ∧ Aside0 (wc.heap[gb321]? = some (.cells #[.int .i64 t309, .int .i64 t310, .int .i64 t311, (.slice Ao49 t312.length co49), (.slice Ao50 t315.length co50), (.slice Ao51 t318.length co51)] 41 (0, 0))) ∧ Aside0 (wc.heap[gb334]? = some (.cells #[.int .i64 t322, .int .i64 t323, .int .i64 t324, (.slice Ao59 t325.length co59), (.slice Ao60 t328.length co60), (.slice Ao61 t331.length co61)] 41 (0, 0))) ∧ Aside0 (Below w.heap.size w wc))
   case first =>
    have H := HC25.out
    clear HC25
    replace H := Option.bind_eq_some_iff.mp H
    obtain ⟨t339, A640, H⟩ := H
    have A64 := Aside0.mk A640
    clear A640
    by_cases c65 : t339 = true
    ·subst c65
     have H1 : (laws_FnExactLevelGaps.j0 k t305 t308 t335 t338 (t338 != t308) a0_0 a0_1 a0_2 l0_3 l0_4 l0_5 a1_0 a1_1 a1_2 l1_3 l1_4 l1_5 t309 t310 t311 t312 t315 t318 t322 t323 t324 t325 t328 t331) = some r := by rw [if_pos rfl] at H; exact H
     clear H
     have H := H1
     clear H1
     have H' := Aside0.mk H
     clear H
     obtain ⟨Ao66, co66, eo66⟩ := Kd.S_slice HO337.out
     subst eo66
     obtain ⟨Ao67, co67, eo67⟩ := Kd.S_slice HO307.out
     subst eo67
     go_wp2_with (first | ((with_reducible refine gate_callee (f := 36) rfl ?_); refine goesL_ (some 47) rfl rfl Try.func36 (by kernel_rfl) rfl #[.slice Ao66 t335.length co66, .slice Ao67 t305.length co67] rfl mpx9 ?_; (with_reducible refine (laws_eqIntSS.calls k _ _ t335 _ _ t305 true _ ?side1 ?side2 ?side3 ?side4 A64.out).mono ?_); (case side1 => repeat (first | exact (Kd.S_reads' HO337.out).2.2 | (with_reducible refine Kd.C_alloc ?_ _) | (with_reducible refine Kd.C_drewN ?_ _) | (with_reducible refine Kd.C_drew ?_))); (case side2 => exact (Kd.S_reads' HO337.out).2.1); (case side3 => repeat (first | exact (Kd.S_reads' HO307.out).2.2 | (with_reducible refine Kd.C_alloc ?_ _) | (with_reducible refine Kd.C_drewN ?_ _) | (with_reducible refine Kd.C_drew ?_))); (case side4 => exact (Kd.S_reads' HO307.out).2.1); rintro e w' ⟨rfl, ⟨nd, rfl⟩⟩; refine ⟨_, rfl, ?_⟩))
     go_meet
     case rel => exact ⟨_, ((t338 != t308)), (by first | rfl | (simp; done) | (simp [*]; done)), H', ⟨by first | omega | exact Nat.le_refl _⟩, ⟨by (with_reducible repeat (first | apply Kd.S_alloc | apply Kd.S_drewN | apply Kd.S_drew)); exact Kd.S_mono HO307.out (fun _ hk => ⟨hk.2, ⟨hk.1.1.1.1.1.1.2, ⟨hk.1.1.1.1.1.2, ⟨hk.1.1.1.1.2, ⟨hk.1.1.1.2, ⟨hk.1.1.2, hk.1.2⟩⟩⟩⟩⟩⟩)⟩, ⟨by (with_reducible repeat (first | apply Kd.S_alloc | apply Kd.S_drewN | apply Kd.S_drew)); exact Kd.S_mono HO337.out (fun _ hk => ⟨⟨hk.1.1.1.1.1.1.2, hk.1.1.1.1.1.1.1.1.1.1.1.1.1.2⟩, ⟨hk.1.1.1.1.1.2, ⟨hk.1.1.1.1.2, ⟨hk.1.1.1.2, ⟨hk.1.1.2, ⟨hk.1.2, hk.2⟩⟩⟩⟩⟩⟩)⟩, ⟨by exact rRx9 (mox9 HO314.out)⟩, ⟨by exact rRx9 (mox9 HO317.out)⟩, ⟨by exact rRx9 (mox9 HO320.out)⟩, ⟨by exact rRx9 (mox9 HO327.out)⟩, ⟨by exact rRx9 (mox9 HO330.out)⟩, ⟨by exact rRx9 (mox9 HO333.out)⟩, ⟨rBx9 BK277.out⟩, ⟨rBx9 BK278.out⟩, ⟨rBx9 BK321.out⟩, ⟨rBx9 BK334.out⟩, ⟨be4x9 HB.out GE277.out GE278.out GE321.out GE334.out⟩⟩
    ·replace c65 := Bool.eq_false_iff.mpr c65
     subst c65
     have H1 : (laws_FnExactLevelGaps.j0 k t305 t308 t335 t338 true a0_0 a0_1 a0_2 l0_3 l0_4 l0_5 a1_0 a1_1 a1_2 l1_3 l1_4 l1_5 t309 t310 t311 t312 t315 t318 t322 t323 t324 t325 t328 t331) = some r := by rw [if_neg (show ¬ (false = true) by decide)] at H; exact H
     clear H
     have H := H1
     clear H1
     have H' := Aside0.mk H
     clear H
     obtain ⟨Ao68, co68, eo68⟩ := Kd.S_slice HO337.out
     subst eo68
     obtain ⟨Ao69, co69, eo69⟩ := Kd.S_slice HO307.out
     subst eo69
     go_wp2_with (first | ((with_reducible refine gate_callee (f := 36) rfl ?_); refine goesL_ (some 47) rfl rfl Try.func36 (by kernel_rfl) rfl #[.slice Ao68 t335.length co68, .slice Ao69 t305.length co69] rfl mpx9 ?_; (with_reducible refine (laws_eqIntSS.calls k _ _ t335 _ _ t305 false _ ?side1 ?side2 ?side3 ?side4 A64.out).mono ?_); (case side1 => repeat (first | exact (Kd.S_reads' HO337.out).2.2 | (with_reducible refine Kd.C_alloc ?_ _) | (with_reducible refine Kd.C_drewN ?_ _) | (with_reducible refine Kd.C_drew ?_))); (case side2 => exact (Kd.S_reads' HO337.out).2.1); (case side3 => repeat (first | exact (Kd.S_reads' HO307.out).2.2 | (with_reducible refine Kd.C_alloc ?_ _) | (with_reducible refine Kd.C_drewN ?_ _) | (with_reducible refine Kd.C_drew ?_))); (case side4 => exact (Kd.S_reads' HO307.out).2.1); rintro e w' ⟨rfl, ⟨nd, rfl⟩⟩; refine ⟨_, rfl, ?_⟩))
     go_meet
     case rel => exact ⟨_, (true), (by first | rfl | (simp; done) | (simp [*]; done)), H', ⟨by first | omega | exact Nat.le_refl _⟩, ⟨by (with_reducible repeat (first | apply Kd.S_alloc | apply Kd.S_drewN | apply Kd.S_drew)); exact Kd.S_mono HO307.out (fun _ hk => ⟨hk.2, ⟨hk.1.1.1.1.1.1.2, ⟨hk.1.1.1.1.1.2, ⟨hk.1.1.1.1.2, ⟨hk.1.1.1.2, ⟨hk.1.1.2, hk.1.2⟩⟩⟩⟩⟩⟩)⟩, ⟨by (with_reducible repeat (first | apply Kd.S_alloc | apply Kd.S_drewN | apply Kd.S_drew)); exact Kd.S_mono HO337.out (fun _ hk => ⟨⟨hk.1.1.1.1.1.1.2, hk.1.1.1.1.1.1.1.1.1.1.1.1.1.2⟩, ⟨hk.1.1.1.1.1.2, ⟨hk.1.1.1.1.2, ⟨hk.1.1.1.2, ⟨hk.1.1.2, ⟨hk.1.2, hk.2⟩⟩⟩⟩⟩⟩)⟩, ⟨by exact rRx9 (mox9 HO314.out)⟩, ⟨by exact rRx9 (mox9 HO317.out)⟩, ⟨by exact rRx9 (mox9 HO320.out)⟩, ⟨by exact rRx9 (mox9 HO327.out)⟩, ⟨by exact rRx9 (mox9 HO330.out)⟩, ⟨by exact rRx9 (mox9 HO333.out)⟩, ⟨rBx9 BK277.out⟩, ⟨rBx9 BK278.out⟩, ⟨rBx9 BK321.out⟩, ⟨rBx9 BK334.out⟩, ⟨be4x9 HB.out GE277.out GE278.out GE321.out GE334.out⟩⟩
   case rest =>
    clear HC25
    try clear c4; try clear c4b0; try clear c11; try clear c11b0; try clear c65; try clear hcz15_0 hcz15_1 hcz15_2 hcz15_3 hcz15_4 hcz15_5; try clear hcz17_0 hcz17_1 hcz17_2 hcz17_3 hcz17_4 hcz17_5; try clear hcz29_0 hcz29_1 hcz29_2 hcz29_3 hcz29_4 hcz29_5; try clear hcz31_0 hcz31_1 hcz31_2 hcz31_3 hcz31_4 hcz31_5; try clear hcz43_0 hcz43_1 hcz43_2 hcz43_3 hcz43_4 hcz43_5; try clear hcz48_0 hcz48_1 hcz48_2 hcz48_3 hcz48_4 hcz48_5; try clear hcz52_0 hcz52_1 hcz52_2 hcz52_3 hcz52_4 hcz52_5; try clear hcz58_0 hcz58_1 hcz58_2 hcz58_3 hcz58_4 hcz58_5; try clear hcz62_0 hcz62_1 hcz62_2 hcz62_3 hcz62_4 hcz62_5; try clear hcz8_0 hcz8_1 hcz8_2 hcz8_3 hcz8_4 hcz8_5; try clear hfz15_0 hfz15_1 hfz15_2 hfz15_3 hfz15_4 hfz15_5; try clear hfz17_0 hfz17_1 hfz17_2 hfz17_3 hfz17_4 hfz17_5; try clear hfz29_0 hfz29_1 hfz29_2 hfz29_3 hfz29_4 hfz29_5; try clear hfz31_0 hfz31_1 hfz31_2 hfz31_3 hfz31_4 hfz31_5; try clear hfz43_0 hfz43_1 hfz43_2 hfz43_3 hfz43_4 hfz43_5; try clear hfz48_0 hfz48_1 hfz48_2 hfz48_3 hfz48_4 hfz48_5; try clear hfz52_0 hfz52_1 hfz52_2 hfz52_3 hfz52_4 hfz52_5; try clear hfz58_0 hfz58_1 hfz58_2 hfz58_3 hfz58_4 hfz58_5; try clear hfz62_0 hfz62_1 hfz62_2 hfz62_3 hfz62_4 hfz62_5; try clear hfz8_0 hfz8_1 hfz8_2 hfz8_3 hfz8_4 hfz8_5
    obtain ⟨kq, x53_24, rfl, HA, HJ24, HO_6, HO_10, HO_322003, HO_322004, HO_322005, HO_335003, HO_335004, HO_335005, BK277, BK278, BK321, BK334, HB⟩ := hcut
    cases kq with
    | zero => exact absurd HA.out (by simp [laws_FnExactLevelGaps.j0])
    | succ kj24 =>
     have H := HA.out
     clear HA
     simp only [laws_FnExactLevelGaps.j0] at H
     by_cases c70 : x53_24 = true
     ·subst c70
      have H1 : (some false) = some r := by rw [if_pos rfl] at H; exact H
      clear H
      have H := H1
      clear H1
      obtain rfl := Option.some.inj H
      go_wp2
      go_ret
      exact ⟨by first | rfl | (simp [errW_none, errW_some] <;> rfl) | (simp [*, errW_none, errW_some] <;> rfl), be4x9 HB.out GE277.out GE278.out GE321.out GE334.out⟩
     ·replace c70 := Bool.eq_false_iff.mpr c70
      subst c70
      have H1 : ((laws_toModel.f kj24 a0_0 a0_1 a0_2 l0_3 l0_4 l0_5).bind fun bt340 => ((laws_eqModel.f kj24 t309 t310 t311 t312 t315 t318 bt340.1 bt340.2.1 bt340.2.2.1 bt340.2.2.2.1 bt340.2.2.2.2.1 bt340.2.2.2.2.2).bind fun t352 => (if t352 = true then (laws_FnExactLevelGaps.j1 kj24 t305 t308 t335 t338 a0_0 a0_1 a0_2 l0_3 l0_4 l0_5 a1_0 a1_1 a1_2 l1_3 l1_4 l1_5 t309 t310 t311 t312 t315 t318 t322 t323 t324 t325 t328 t331) else (some false)))) = some r := by rw [if_neg (show ¬ (false = true) by decide)] at H; exact H
      clear H
      have H := H1
      clear H1
      replace H := Option.bind_eq_some_iff.mp H
      obtain ⟨⟨t340, t341, t342, t343, t346, t349⟩, A710, H⟩ := H
      (try dsimp only at H)
      have A71 := Aside0.mk A710
      clear A710
      replace H := Option.bind_eq_some_iff.mp H
      obtain ⟨t352, A720, H⟩ := H
      have A72 := Aside0.mk A720
      clear A720
      have HC73 := Aside0.mk H
      clear H
      try go_wp2
      replace HO_6 := Aside0.mk (Kd.S_drew HO_6.out)
      replace HO_10 := Aside0.mk (Kd.S_drew HO_10.out)
      replace HO_322003 := Aside0.mk (Kd.R_drew HO_322003.out)
      replace HO_322004 := Aside0.mk (Kd.R_drew HO_322004.out)
      replace HO_322005 := Aside0.mk (Kd.R_drew HO_322005.out)
      replace HO_335003 := Aside0.mk (Kd.R_drew HO_335003.out)
      replace HO_335004 := Aside0.mk (Kd.R_drew HO_335004.out)
      replace HO_335005 := Aside0.mk (Kd.R_drew HO_335005.out)
      replace BK277 := Aside0.mk (blk_drew BK277.out)
      replace BK278 := Aside0.mk (blk_drew BK278.out)
      replace BK321 := Aside0.mk (blk_drew BK321.out)
      replace BK334 := Aside0.mk (blk_drew BK334.out)
      replace HB := Aside0.mk (below_drew1 HB.out)
      refine start_ (n := 5) (S := fun w' => w'.cell? ⟨gb321, 0, none⟩ = some (.int .i64 t309) ∧ w'.cell? ⟨gb321, 1, none⟩ = some (.int .i64 t310) ∧ w'.cell? ⟨gb321, 2, none⟩ = some (.int .i64 t311) ∧ w'.cell? ⟨gb321, 3, none⟩ = some (.slice Ao49 t312.length co49) ∧ w'.cell? ⟨gb321, 4, none⟩ = some (.slice Ao50 t315.length co50) ∧ w'.cell? ⟨gb321, 5, none⟩ = some (.slice Ao51 t318.length co51) ∧ w'.cell? ⟨gb277, 0, none⟩ = some (.int .i64 a0_0) ∧ w'.cell? ⟨gb277, 1, none⟩ = some (.int .i64 a0_1) ∧ w'.cell? ⟨gb277, 2, none⟩ = some (.int .i64 a0_2) ∧ w'.cell? ⟨gb277, 3, none⟩ = some (.slice A0_3 l0_3.length c0_3) ∧ w'.cell? ⟨gb277, 4, none⟩ = some (.slice A0_4 l0_4.length c0_4) ∧ w'.cell? ⟨gb277, 5, none⟩ = some (.slice A0_5 l0_5.length c0_5)) (ds := []) #[false, false, false, false, false] (by kernel_rfl) rfl rfl (ca6x9 BK321.out (cc6x9 BK277.out)) (fun hHeld => ?_)
      generalize wc.drew = w74 at HO_6 HO_10 HO_322003 HO_322004 HO_322005 HO_335003 HO_335004 HO_335005 BK277 BK278 BK321 BK334 HB hHeld ⊢
      refine take_ (i := 0) (N := some 54) (v := ?_) (a' := ?_) #[true, false, false, false, false] rfl rfl (by kernel_rfl) (fun _ _ _ h => h) (Or.inl ⟨by rfl, ?_⟩) hHeld ?_ ?_
      rotate_left
      ·rintro w' ⟨s0, s1, s2, s3, s4, s5, s6, s7, s8, s9, s10, s11⟩
       go_simp
       with_reducible rfl
      rotate_left
      ·simp only [Act.put, List.setIfInBounds_toArray, List.set_cons_zero, List.set_cons_succ, i64_w, i32_w]
       rfl
      refine take_ (i := 1) (N := some 55) (v := ?_) (a' := ?_) #[true, true, false, false, false] rfl rfl (by kernel_rfl) (fun _ _ _ h => h) (Or.inl ⟨by rfl, ?_⟩) hHeld ?_ ?_
      rotate_left
      ·rintro w' ⟨s0, s1, s2, s3, s4, s5, s6, s7, s8, s9, s10, s11⟩
       go_simp
       with_reducible rfl
      rotate_left
      ·simp only [Act.put, List.setIfInBounds_toArray, List.set_cons_zero, List.set_cons_succ, i64_w, i32_w]
       rfl
      refine one_ (i := 2) (N := some 56) #[true, true, true, false, false] rfl rfl (by kernel_rfl) (by decide) (fun K hK => ?_)
      refine goes_ Try.func19 (by kernel_rfl) rfl #[.agg #[.int .i64 a0_0, .int .i64 a0_1, .int .i64 a0_2, .slice A0_3 l0_3.length c0_3, .slice A0_4 l0_4.length c0_4, .slice A0_5 l0_5.length c0_5]] (by rfl) rfl rfl mpx9 ?_
      with_reducible refine (laws_toModel.calls kj24 a0_0 a0_1 a0_2 _ _ l0_3 _ _ l0_4 _ _ l0_5 t340 t341 t342 t343 t346 t349 _ ?side1 ?side2 ?side3 ?side4 ?side5 ?side6 A71.out).mono ?_
      (case side1 => exact rCx9 (Kd.C_below HR0_3.out HB.out))
      (case side2 => exact HC0_3.out)
      (case side3 => exact rCx9 (Kd.C_below HR0_4.out HB.out))
      (case side4 => exact HC0_4.out)
      (case side5 => exact rCx9 (Kd.C_below HR0_5.out HB.out))
      (case side6 => exact HC0_5.out)
      rintro e w75 ⟨v344, v347, v350, rfl, ho0, ho1, ho2, hb⟩
      refine ⟨_, rfl, ?_⟩
      replace HO_6 := Aside0.mk (Kd.S_mono (Kd.S_told (Kd.S_told (Kd.S_told (Kd.S_old (rSx9 HO_6.out) hb) (Kd.R_base ho0)) (Kd.R_base ho1)) (Kd.R_base ho2)) (fun _ h_ => h_.1))
      replace HO_10 := Aside0.mk (Kd.S_mono (Kd.S_told (Kd.S_told (Kd.S_told (Kd.S_old (rSx9 HO_10.out) hb) (Kd.R_base ho0)) (Kd.R_base ho1)) (Kd.R_base ho2)) (fun _ h_ => h_.1))
      have HO345 := Aside0.mk (Kd.R_lower (nwx9 (nwx9 (nwx9 (nwx9 (nwx9 (nwx9 ho0 (rRx9 HO_322003.out)) (rRx9 HO_322004.out)) (rRx9 HO_322005.out)) (rRx9 HO_335003.out)) (rRx9 HO_335004.out)) (rRx9 HO_335005.out)) (below_size (be4x9 HB.out GE277.out GE278.out GE321.out GE334.out)))
      have HO348 := Aside0.mk (Kd.R_lower (nwx9 (nwx9 (nwx9 (nwx9 (nwx9 (nwx9 ho1 (rRx9 HO_322003.out)) (rRx9 HO_322004.out)) (rRx9 HO_322005.out)) (rRx9 HO_335003.out)) (rRx9 HO_335004.out)) (rRx9 HO_335005.out)) (below_size (be4x9 HB.out GE277.out GE278.out GE321.out GE334.out)))
      have HO351 := Aside0.mk (Kd.R_lower (nwx9 (nwx9 (nwx9 (nwx9 (nwx9 (nwx9 ho2 (rRx9 HO_322003.out)) (rRx9 HO_322004.out)) (rRx9 HO_322005.out)) (rRx9 HO_335003.out)) (rRx9 HO_335004.out)) (rRx9 HO_335005.out)) (below_size (be4x9 HB.out GE277.out GE278.out GE321.out GE334.out)))
      replace HO_322003 := Aside0.mk (kp3x9 (rRx9 HO_322003.out) hb ho0 ho1 ho2)
      replace HO_322004 := Aside0.mk (kp3x9 (rRx9 HO_322004.out) hb ho0 ho1 ho2)
      replace HO_322005 := Aside0.mk (kp3x9 (rRx9 HO_322005.out) hb ho0 ho1 ho2)
      replace HO_335003 := Aside0.mk (kp3x9 (rRx9 HO_335003.out) hb ho0 ho1 ho2)
      replace HO_335004 := Aside0.mk (kp3x9 (rRx9 HO_335004.out) hb ho0 ho1 ho2)
      replace HO_335005 := Aside0.mk (kp3x9 (rRx9 HO_335005.out) hb ho0 ho1 ho2)
      replace BK277 := Aside0.mk (blk_below (rBx9 BK277.out) hb)
      replace BK278 := Aside0.mk (blk_below (rBx9 BK278.out) hb)
      replace BK321 := Aside0.mk (blk_below (rBx9 BK321.out) hb)
      replace BK334 := Aside0.mk (blk_below (rBx9 BK334.out) hb)
      replace HB := Aside0.mk (below_step (be4x9 HB.out GE277.out GE278.out GE321.out GE334.out) hb)
      (try clear hb)
      (try clear hb2)
      (try clear hk)
      (try clear hi)
      (try clear ho0)
      (try clear ho1)
      (try clear ho2)
      obtain ⟨Ao76, co76, eo76⟩ := Kd.R_slice HO345.out
      (first | subst eo76 | (injection eo76 with f1_ f2_ f3_; have f4_ := f1_.symm; have f5_ := f3_.symm; clear f1_ f2_ f3_; subst f4_; subst f5_))
      obtain ⟨Ao77, co77, eo77⟩ := Kd.R_slice HO348.out
      (first | subst eo77 | (injection eo77 with f1_ f2_ f3_; have f4_ := f1_.symm; have f5_ := f3_.symm; clear f1_ f2_ f3_; subst f4_; subst f5_))
      obtain ⟨Ao78, co78, eo78⟩ := Kd.R_slice HO351.out
      (first | subst eo78 | (injection eo78 with f1_ f2_ f3_; have f4_ := f1_.symm; have f5_ := f3_.symm; clear f1_ f2_ f3_; subst f4_; subst f5_))
      refine hK.out _ _ (ca6x9 BK321.out (cc6x9 BK277.out)) (fun hHeld => ?_)
      clear hK K
      refine norm_ (a' := ?_) ?_ ?_
      rotate_left
      ·show Act.put _ (some 56) _ = _
       simp only [Act.put, List.setIfInBounds_toArray, List.set_cons_zero, List.set_cons_succ, i64_w, i32_w]
       rfl
      refine one_ (i := 3) (N := some 57) #[true, true, true, true, false] rfl rfl (by kernel_rfl) (by decide) (fun K hK => ?_)
      refine goes_ Try.func24 (by kernel_rfl) rfl #[.agg #[.int .i64 t309, .int .i64 t310, .int .i64 t311, .slice Ao49 t312.length co49, .slice Ao50 t315.length co50, .slice Ao51 t318.length co51], .agg #[.int .i64 t340, .int .i64 t341, .int .i64 t342, .slice Ao76 t343.length co76, .slice Ao77 t346.length co77, .slice Ao78 t349.length co78]] (by rfl) rfl rfl mpx9 ?_
      with_reducible refine (laws_eqModel.calls kj24 t309 t310 t311 _ _ t312 _ _ t315 _ _ t318 t340 t341 t342 _ _ t343 _ _ t346 _ _ t349 t352 _ ?side1 ?side2 ?side3 ?side4 ?side5 ?side6 ?side7 ?side8 ?side9 ?side10 ?side11 ?side12 A72.out).mono ?_
      (case side1 => exact cRx9 HO_322003.out)
      (case side2 => exact (Kd.R_reads' HO_322003.out).2.1)
      (case side3 => exact cRx9 HO_322004.out)
      (case side4 => exact (Kd.R_reads' HO_322004.out).2.1)
      (case side5 => exact cRx9 HO_322005.out)
      (case side6 => exact (Kd.R_reads' HO_322005.out).2.1)
      (case side7 => exact cRx9 HO345.out)
      (case side8 => exact (Kd.R_reads' HO345.out).2.1)
      (case side9 => exact cRx9 HO348.out)
      (case side10 => exact (Kd.R_reads' HO348.out).2.1)
      (case side11 => exact cRx9 HO351.out)
      (case side12 => exact (Kd.R_reads' HO351.out).2.1)
      rintro e w79 ⟨rfl, hb⟩
      refine ⟨_, rfl, ?_⟩
      replace HO_6 := Aside0.mk (Kd.S_below (rSx9 HO_6.out) hb)
      replace HO_10 := Aside0.mk (Kd.S_below (rSx9 HO_10.out) hb)
      replace HO_322003 := Aside0.mk (Kd.R_below (rRx9 HO_322003.out) hb)
      replace HO_322004 := Aside0.mk (Kd.R_below (rRx9 HO_322004.out) hb)
      replace HO_322005 := Aside0.mk (Kd.R_below (rRx9 HO_322005.out) hb)
      replace HO_335003 := Aside0.mk (Kd.R_below (rRx9 HO_335003.out) hb)
      replace HO_335004 := Aside0.mk (Kd.R_below (rRx9 HO_335004.out) hb)
      replace HO_335005 := Aside0.mk (Kd.R_below (rRx9 HO_335005.out) hb)
      replace HO345 := Aside0.mk (Kd.R_below (rRx9 HO345.out) hb)
      replace HO348 := Aside0.mk (Kd.R_below (rRx9 HO348.out) hb)
      replace HO351 := Aside0.mk (Kd.R_below (rRx9 HO351.out) hb)
      replace BK277 := Aside0.mk (blk_below (rBx9 BK277.out) hb)
      replace BK278 := Aside0.mk (blk_below (rBx9 BK278.out) hb)
      replace BK321 := Aside0.mk (blk_below (rBx9 BK321.out) hb)
      replace BK334 := Aside0.mk (blk_below (rBx9 BK334.out) hb)
      replace HB := Aside0.mk (below_step (be4x9 HB.out GE277.out GE278.out GE321.out GE334.out) hb)
      (try clear hb)
      (try clear hb2)
      (try clear hk)
      (try clear hi)
      refine hK.out _ _ (ca6x9 BK321.out (cc6x9 BK277.out)) (fun hHeld => ?_)
      clear hK K
      refine norm_ (a' := ?_) ?_ ?_
      rotate_left
      ·show Act.put _ (some 57) _ = _
       simp only [Act.put, List.setIfInBounds_toArray, List.set_cons_zero, List.set_cons_succ, i64_w, i32_w]
       rfl
      refine pure_ (i := 4) (N := some 58) (v := ?_) (a' := ?_) #[true, true, true, true, true] rfl rfl (by kernel_rfl) (fun _ _ _ h => h) (Or.inl ⟨by rfl, ?_⟩) ?_ ?_
      rotate_left
      ·intro w'
       go_simp
       with_reducible rfl
      rotate_left
      ·simp only [Act.put, List.setIfInBounds_toArray, List.set_cons_zero, List.set_cons_succ, i64_w, i32_w]
       rfl
      refine done_ (by kernel_rfl) ?_
      go_upto_if 58 with (fail)
      go_cut [] (fun wc => ∃ (kq : Nat), Aside0 (laws_FnExactLevelGaps.j1 kq t305 t308 t335 t338 a0_0 a0_1 a0_2 l0_3 l0_4 l0_5 a1_0 a1_1 a1_2 l1_3 l1_4 l1_5 t309 t310 t311 t312 t315 t318 t322 t323 t324 t325 t328 t331 = some r) ∧ Aside0 (kq ≤ kj24) ∧ Aside0 (Kd.S (Kd.slice 3 (Kd.int .i64)) 24 wc w.heap.size (fun k_ => (some k_ ≠ (v336 : Value).ownBlock ∧ k_ < N_) ∧ some k_ ≠ ((.slice Ao49 t312.length co49) : Value).ownBlock ∧ some k_ ≠ ((.slice Ao50 t315.length co50) : Value).ownBlock ∧ some k_ ≠ ((.slice Ao51 t318.length co51) : Value).ownBlock ∧ some k_ ≠ ((.slice Ao59 t325.length co59) : Value).ownBlock ∧ some k_ ≠ ((.slice Ao60 t328.length co60) : Value).ownBlock ∧ some k_ ≠ ((.slice Ao61 t331.length co61) : Value).ownBlock) v306 t305) ∧ Aside0 (Kd.S (Kd.slice 3 (Kd.int .i64)) 24 wc w.heap.size (fun k_ => (some k_ ≠ (v306 : Value).ownBlock ∧ N_ ≤ k_) ∧ some k_ ≠ ((.slice Ao49 t312.length co49) : Value).ownBlock ∧ some k_ ≠ ((.slice Ao50 t315.length co50) : Value).ownBlock ∧ some k_ ≠ ((.slice Ao51 t318.length co51) : Value).ownBlock ∧ some k_ ≠ ((.slice Ao59 t325.length co59) : Value).ownBlock ∧ some k_ ≠ ((.slice Ao60 t328.length co60) : Value).ownBlock ∧ some k_ ≠ ((.slice Ao61 t331.length co61) : Value).ownBlock) v336 t335) ∧ Aside0 (Kd.R (Kd.int .i64) 3 wc w.heap.size (fun k_ => some k_ ≠ ((.slice Ao50 t315.length co50) : Value).ownBlock ∧ some k_ ≠ ((.slice Ao51 t318.length co51) : Value).ownBlock ∧ some k_ ≠ ((.slice Ao59 t325.length co59) : Value).ownBlock ∧ some k_ ≠ ((.slice Ao60 t328.length co60) : Value).ownBlock ∧ some k_ ≠ ((.slice Ao61 t331.length co61) : Value).ownBlock) (.slice Ao49 t312.length co49) t312) ∧ Aside0 (Kd.R (Kd.int .i64) 3 wc w.heap.size (fun k_ => some k_ ≠ ((.slice Ao49 t312.length co49) : Value).ownBlock ∧ some k_ ≠ ((.slice Ao51 t318.length co51) : Value).ownBlock ∧ some k_ ≠ ((.slice Ao59 t325.length co59) : Value).ownBlock ∧ some k_ ≠ ((.slice Ao60 t328.length co60) : Value).ownBlock ∧ some k_ ≠ ((.slice Ao61 t331.length co61) : Value).ownBlock) (.slice Ao50 t315.length co50) t315) ∧ Aside0 (Kd.R (Kd.int .i64) 3 wc w.heap.size (fun k_ => some k_ ≠ ((.slice Ao49 t312.length co49) : Value).ownBlock ∧ some k_ ≠ ((.slice Ao50 t315.length co50) : Value).ownBlock ∧ some k_ ≠ ((.slice Ao59 t325.length co59) : Value).ownBlock ∧ some k_ ≠ ((.slice Ao60 t328.length co60) : Value).ownBlock ∧ some k_ ≠ ((.slice Ao61 t331.length co61) : Value).ownBlock) (.slice Ao51 t318.length co51) t318) ∧ Aside0 (Kd.R (Kd.int .i64) 3 wc w.heap.size (fun k_ => some k_ ≠ ((.slice Ao49 t312.length co49) : Value).ownBlock ∧ some k_ ≠ ((.slice Ao50 t315.length co50) : Value).ownBlock ∧ some k_ ≠ ((.slice Ao51 t318.length co51) : Value).ownBlock ∧ some k_ ≠ ((.slice Ao60 t328.length co60) : Value).ownBlock ∧ some k_ ≠ ((.slice Ao61 t331.length co61) : Value).ownBlock) (.slice Ao59 t325.length co59) t325) ∧ Aside0 (Kd.R (Kd.int .i64) 3 wc w.heap.size (fun k_ => some k_ ≠ ((.slice Ao49 t312.length co49) : Value).ownBlock ∧ some k_ ≠ ((.slice Ao50 t315.length co50) : Value).ownBlock ∧ some k_ ≠ ((.slice Ao51 t318.length co51) : Value).ownBlock ∧ some k_ ≠ ((.slice Ao59 t325.length co59) : Value).ownBlock ∧ some k_ ≠ ((.slice Ao61 t331.length co61) : Value).ownBlock) (.slice Ao60 t328.length co60) t328) ∧ Aside0 (Kd.R (Kd.int .i64) 3 wc w.heap.size (fun k_ => some k_ ≠ ((.slice Ao49 t312.length co49) : Value).ownBlock ∧ some k_ ≠ ((.slice Ao50 t315.length co50) : Value).ownBlock ∧ some k_ ≠ ((.slice Ao51 t318.length co51) : Value).ownBlock ∧ some k_ ≠ ((.slice Ao59 t325.length co59) : Value).ownBlock ∧ some k_ ≠ ((.slice Ao60 t328.length co60) : Value).ownBlock) (.slice Ao61 t331.length co61) t331) ∧ Aside0 (wc.heap[gb277]? = some (.cells #[.int .i64 a0_0, .int .i64 a0_1, .int .i64 a0_2, (.slice A0_3 l0_3.length c0_3), (.slice A0_4 l0_4.length c0_4), (.slice A0_5 l0_5.length c0_5)] 26 (0, 0))) ∧ Aside0 (wc.heap[gb278]? = some (.cells #[.int .i64 a1_0, .int .i64 a1_1, .int .i64 a1_2, (.slice A1_3 l1_3.length c1_3), (.slice A1_4 l1_4.length c1_4), (.slice A1_5 l1_5.length c1_5)] 26 (0, 0))) ∧ Aside0 (wc.heap[gb321]? = some (.cells #[.int .i64 t309, .int .i64 t310, .int .i64 t311, (.slice Ao49 t312.length co49), (.slice Ao50 t315.length co50), (.slice Ao51 t318.length co51)] 41 (0, 0))) ∧ Aside0 (wc.heap[gb334]? = some (.cells #[.int .i64 t322, .int .i64 t323, .int .i64 t324, (.slice Ao59 t325.length co59), (.slice Ao60 t328.length co60), (.slice Ao61 t331.length co61)] 41 (0, 0))) ∧ Aside0 (Below w.heap.size w wc))
      case first =>
       have H := HC73.out
       clear HC73
       by_cases c80 : t352 = true
       ·subst c80
        have H1 : (laws_FnExactLevelGaps.j1 kj24 t305 t308 t335 t338 a0_0 a0_1 a0_2 l0_3 l0_4 l0_5 a1_0 a1_1 a1_2 l1_3 l1_4 l1_5 t309 t310 t311 t312 t315 t318 t322 t323 t324 t325 t328 t331) = some r := by rw [if_pos rfl] at H; exact H
        clear H
        have H := H1
        clear H1
        have H' := Aside0.mk H
        clear H
        go_wp2
        go_meet
        case rel => exact ⟨_, H', ⟨by have := HJ24.out; first | omega | exact Nat.le_refl _⟩, ⟨by (with_reducible repeat (first | apply Kd.S_alloc | apply Kd.S_drewN | apply Kd.S_drew)); exact Kd.S_mono HO_6.out (fun _ hk => ⟨hk.1.1.1.1, ⟨hk.1.1.1.2.1, ⟨hk.1.1.1.2.2.1, ⟨hk.1.1.1.2.2.2.1, ⟨hk.1.1.1.2.2.2.2.1, ⟨hk.1.1.1.2.2.2.2.2.1, hk.1.1.1.2.2.2.2.2.2⟩⟩⟩⟩⟩⟩)⟩, ⟨by (with_reducible repeat (first | apply Kd.S_alloc | apply Kd.S_drewN | apply Kd.S_drew)); exact Kd.S_mono HO_10.out (fun _ hk => ⟨hk.1.1.1.1, ⟨hk.1.1.1.2.1, ⟨hk.1.1.1.2.2.1, ⟨hk.1.1.1.2.2.2.1, ⟨hk.1.1.1.2.2.2.2.1, ⟨hk.1.1.1.2.2.2.2.2.1, hk.1.1.1.2.2.2.2.2.2⟩⟩⟩⟩⟩⟩)⟩, ⟨by exact rRx9 (mox9 HO_322003.out)⟩, ⟨by exact rRx9 (mox9 HO_322004.out)⟩, ⟨by exact rRx9 (mox9 HO_322005.out)⟩, ⟨by exact rRx9 (mox9 HO_335003.out)⟩, ⟨by exact rRx9 (mox9 HO_335004.out)⟩, ⟨by exact rRx9 (mox9 HO_335005.out)⟩, ⟨rBx9 BK277.out⟩, ⟨rBx9 BK278.out⟩, ⟨rBx9 BK321.out⟩, ⟨rBx9 BK334.out⟩, ⟨be4x9 HB.out GE277.out GE278.out GE321.out GE334.out⟩⟩
       ·replace c80 := Bool.eq_false_iff.mpr c80
        subst c80
        have H1 : (some false) = some r := by rw [if_neg (show ¬ (false = true) by decide)] at H; exact H
        clear H
        have H := H1
        clear H1
        obtain rfl := Option.some.inj H
        go_wp2
        go_ret
        exact ⟨by first | rfl | (simp [errW_none, errW_some] <;> rfl) | (simp [*, errW_none, errW_some] <;> rfl), be4x9 HB.out GE277.out GE278.out GE321.out GE334.out⟩
      case rest =>
       clear HC73
       try clear c70; try clear c80
       obtain ⟨kq, HA, HJ72, HO_6, HO_10, HO_322003, HO_322004, HO_322005, HO_335003, HO_335004, HO_335005, BK277, BK278, BK321, BK334, HB⟩ := hcut
       cases kq with
       | zero => exact absurd HA.out (by simp [laws_FnExactLevelGaps.j1])
       | succ kj72 =>
        have H := HA.out
        clear HA
        simp only [laws_FnExactLevelGaps.j1] at H
        replace H := Option.bind_eq_some_iff.mp H
        obtain ⟨⟨t353, t354, t355, t356, t359, t362⟩, A810, H⟩ := H
        (try dsimp only at H)
        have A81 := Aside0.mk A810
        clear A810
        replace H := Option.bind_eq_some_iff.mp H
        obtain ⟨t365, A820, H⟩ := H
        have A82 := Aside0.mk A820
        clear A820
        have HC83 := Aside0.mk H
        clear H
        try go_wp2
        replace HO_6 := Aside0.mk (Kd.S_drew HO_6.out)
        replace HO_10 := Aside0.mk (Kd.S_drew HO_10.out)
        replace HO_322003 := Aside0.mk (Kd.R_drew HO_322003.out)
        replace HO_322004 := Aside0.mk (Kd.R_drew HO_322004.out)
        replace HO_322005 := Aside0.mk (Kd.R_drew HO_322005.out)
        replace HO_335003 := Aside0.mk (Kd.R_drew HO_335003.out)
        replace HO_335004 := Aside0.mk (Kd.R_drew HO_335004.out)
        replace HO_335005 := Aside0.mk (Kd.R_drew HO_335005.out)
        replace BK277 := Aside0.mk (blk_drew BK277.out)
        replace BK278 := Aside0.mk (blk_drew BK278.out)
        replace BK321 := Aside0.mk (blk_drew BK321.out)
        replace BK334 := Aside0.mk (blk_drew BK334.out)
        replace HB := Aside0.mk (below_drew1 HB.out)
        refine start_ (n := 5) (S := fun w' => w'.cell? ⟨gb334, 0, none⟩ = some (.int .i64 t322) ∧ w'.cell? ⟨gb334, 1, none⟩ = some (.int .i64 t323) ∧ w'.cell? ⟨gb334, 2, none⟩ = some (.int .i64 t324) ∧ w'.cell? ⟨gb334, 3, none⟩ = some (.slice Ao59 t325.length co59) ∧ w'.cell? ⟨gb334, 4, none⟩ = some (.slice Ao60 t328.length co60) ∧ w'.cell? ⟨gb334, 5, none⟩ = some (.slice Ao61 t331.length co61) ∧ w'.cell? ⟨gb278, 0, none⟩ = some (.int .i64 a1_0) ∧ w'.cell? ⟨gb278, 1, none⟩ = some (.int .i64 a1_1) ∧ w'.cell? ⟨gb278, 2, none⟩ = some (.int .i64 a1_2) ∧ w'.cell? ⟨gb278, 3, none⟩ = some (.slice A1_3 l1_3.length c1_3) ∧ w'.cell? ⟨gb278, 4, none⟩ = some (.slice A1_4 l1_4.length c1_4) ∧ w'.cell? ⟨gb278, 5, none⟩ = some (.slice A1_5 l1_5.length c1_5)) (ds := []) #[false, false, false, false, false] (by kernel_rfl) rfl rfl (ca6x9 BK334.out (cc6x9 BK278.out)) (fun hHeld => ?_)
        generalize wc.drew = w84 at HO_6 HO_10 HO_322003 HO_322004 HO_322005 HO_335003 HO_335004 HO_335005 BK277 BK278 BK321 BK334 HB hHeld ⊢
        refine take_ (i := 0) (N := some 59) (v := ?_) (a' := ?_) #[true, false, false, false, false] rfl rfl (by kernel_rfl) (fun _ _ _ h => h) (Or.inl ⟨by rfl, ?_⟩) hHeld ?_ ?_
        rotate_left
        ·rintro w' ⟨s0, s1, s2, s3, s4, s5, s6, s7, s8, s9, s10, s11⟩
         go_simp
         with_reducible rfl
        rotate_left
        ·simp only [Act.put, List.setIfInBounds_toArray, List.set_cons_zero, List.set_cons_succ, i64_w, i32_w]
         rfl
        refine take_ (i := 1) (N := some 60) (v := ?_) (a' := ?_) #[true, true, false, false, false] rfl rfl (by kernel_rfl) (fun _ _ _ h => h) (Or.inl ⟨by rfl, ?_⟩) hHeld ?_ ?_
        rotate_left
        ·rintro w' ⟨s0, s1, s2, s3, s4, s5, s6, s7, s8, s9, s10, s11⟩
         go_simp
         with_reducible rfl
        rotate_left
        ·simp only [Act.put, List.setIfInBounds_toArray, List.set_cons_zero, List.set_cons_succ, i64_w, i32_w]
         rfl
        refine one_ (i := 2) (N := some 61) #[true, true, true, false, false] rfl rfl (by kernel_rfl) (by decide) (fun K hK => ?_)
        refine goes_ Try.func19 (by kernel_rfl) rfl #[.agg #[.int .i64 a1_0, .int .i64 a1_1, .int .i64 a1_2, .slice A1_3 l1_3.length c1_3, .slice A1_4 l1_4.length c1_4, .slice A1_5 l1_5.length c1_5]] (by rfl) rfl rfl mpx9 ?_
        with_reducible refine (laws_toModel.calls kj72 a1_0 a1_1 a1_2 _ _ l1_3 _ _ l1_4 _ _ l1_5 t353 t354 t355 t356 t359 t362 _ ?side1 ?side2 ?side3 ?side4 ?side5 ?side6 A81.out).mono ?_
        (case side1 => exact rCx9 (Kd.C_below HR1_3.out HB.out))
        (case side2 => exact HC1_3.out)
        (case side3 => exact rCx9 (Kd.C_below HR1_4.out HB.out))
        (case side4 => exact HC1_4.out)
        (case side5 => exact rCx9 (Kd.C_below HR1_5.out HB.out))
        (case side6 => exact HC1_5.out)
        rintro e w85 ⟨v357, v360, v363, rfl, ho0, ho1, ho2, hb⟩
        refine ⟨_, rfl, ?_⟩
        replace HO_6 := Aside0.mk (Kd.S_mono (Kd.S_told (Kd.S_told (Kd.S_told (Kd.S_old (rSx9 HO_6.out) hb) (Kd.R_base ho0)) (Kd.R_base ho1)) (Kd.R_base ho2)) (fun _ h_ => h_.1))
        replace HO_10 := Aside0.mk (Kd.S_mono (Kd.S_told (Kd.S_told (Kd.S_told (Kd.S_old (rSx9 HO_10.out) hb) (Kd.R_base ho0)) (Kd.R_base ho1)) (Kd.R_base ho2)) (fun _ h_ => h_.1))
        have HO358 := Aside0.mk (Kd.R_lower (nwx9 (nwx9 (nwx9 (nwx9 (nwx9 (nwx9 ho0 (rRx9 HO_322003.out)) (rRx9 HO_322004.out)) (rRx9 HO_322005.out)) (rRx9 HO_335003.out)) (rRx9 HO_335004.out)) (rRx9 HO_335005.out)) (below_size (be4x9 HB.out GE277.out GE278.out GE321.out GE334.out)))
        have HO361 := Aside0.mk (Kd.R_lower (nwx9 (nwx9 (nwx9 (nwx9 (nwx9 (nwx9 ho1 (rRx9 HO_322003.out)) (rRx9 HO_322004.out)) (rRx9 HO_322005.out)) (rRx9 HO_335003.out)) (rRx9 HO_335004.out)) (rRx9 HO_335005.out)) (below_size (be4x9 HB.out GE277.out GE278.out GE321.out GE334.out)))
        have HO364 := Aside0.mk (Kd.R_lower (nwx9 (nwx9 (nwx9 (nwx9 (nwx9 (nwx9 ho2 (rRx9 HO_322003.out)) (rRx9 HO_322004.out)) (rRx9 HO_322005.out)) (rRx9 HO_335003.out)) (rRx9 HO_335004.out)) (rRx9 HO_335005.out)) (below_size (be4x9 HB.out GE277.out GE278.out GE321.out GE334.out)))
        replace HO_322003 := Aside0.mk (kp3x9 (rRx9 HO_322003.out) hb ho0 ho1 ho2)
        replace HO_322004 := Aside0.mk (kp3x9 (rRx9 HO_322004.out) hb ho0 ho1 ho2)
        replace HO_322005 := Aside0.mk (kp3x9 (rRx9 HO_322005.out) hb ho0 ho1 ho2)
        replace HO_335003 := Aside0.mk (kp3x9 (rRx9 HO_335003.out) hb ho0 ho1 ho2)
        replace HO_335004 := Aside0.mk (kp3x9 (rRx9 HO_335004.out) hb ho0 ho1 ho2)
        replace HO_335005 := Aside0.mk (kp3x9 (rRx9 HO_335005.out) hb ho0 ho1 ho2)
        replace BK277 := Aside0.mk (blk_below (rBx9 BK277.out) hb)
        replace BK278 := Aside0.mk (blk_below (rBx9 BK278.out) hb)
        replace BK321 := Aside0.mk (blk_below (rBx9 BK321.out) hb)
        replace BK334 := Aside0.mk (blk_below (rBx9 BK334.out) hb)
        replace HB := Aside0.mk (below_step (be4x9 HB.out GE277.out GE278.out GE321.out GE334.out) hb)
        (try clear hb)
        (try clear hb2)
        (try clear hk)
        (try clear hi)
        (try clear ho0)
        (try clear ho1)
        (try clear ho2)
        obtain ⟨Ao86, co86, eo86⟩ := Kd.R_slice HO358.out
        (first | subst eo86 | (injection eo86 with f1_ f2_ f3_; have f4_ := f1_.symm; have f5_ := f3_.symm; clear f1_ f2_ f3_; subst f4_; subst f5_))
        obtain ⟨Ao87, co87, eo87⟩ := Kd.R_slice HO361.out
        (first | subst eo87 | (injection eo87 with f1_ f2_ f3_; have f4_ := f1_.symm; have f5_ := f3_.symm; clear f1_ f2_ f3_; subst f4_; subst f5_))
        obtain ⟨Ao88, co88, eo88⟩ := Kd.R_slice HO364.out
        (first | subst eo88 | (injection eo88 with f1_ f2_ f3_; have f4_ := f1_.symm; have f5_ := f3_.symm; clear f1_ f2_ f3_; subst f4_; subst f5_))
        refine hK.out _ _ (ca6x9 BK334.out (cc6x9 BK278.out)) (fun hHeld => ?_)
        clear hK K
        refine norm_ (a' := ?_) ?_ ?_
        rotate_left
        ·show Act.put _ (some 61) _ = _
         simp only [Act.put, List.setIfInBounds_toArray, List.set_cons_zero, List.set_cons_succ, i64_w, i32_w]
         rfl
        refine one_ (i := 3) (N := some 62) #[true, true, true, true, false] rfl rfl (by kernel_rfl) (by decide) (fun K hK => ?_)
        refine goes_ Try.func24 (by kernel_rfl) rfl #[.agg #[.int .i64 t322, .int .i64 t323, .int .i64 t324, .slice Ao59 t325.length co59, .slice Ao60 t328.length co60, .slice Ao61 t331.length co61], .agg #[.int .i64 t353, .int .i64 t354, .int .i64 t355, .slice Ao86 t356.length co86, .slice Ao87 t359.length co87, .slice Ao88 t362.length co88]] (by rfl) rfl rfl mpx9 ?_
        with_reducible refine (laws_eqModel.calls kj72 t322 t323 t324 _ _ t325 _ _ t328 _ _ t331 t353 t354 t355 _ _ t356 _ _ t359 _ _ t362 t365 _ ?side1 ?side2 ?side3 ?side4 ?side5 ?side6 ?side7 ?side8 ?side9 ?side10 ?side11 ?side12 A82.out).mono ?_
        (case side1 => exact cRx9 HO_335003.out)
        (case side2 => exact (Kd.R_reads' HO_335003.out).2.1)
        (case side3 => exact cRx9 HO_335004.out)
        (case side4 => exact (Kd.R_reads' HO_335004.out).2.1)
        (case side5 => exact cRx9 HO_335005.out)
        (case side6 => exact (Kd.R_reads' HO_335005.out).2.1)
        (case side7 => exact cRx9 HO358.out)
        (case side8 => exact (Kd.R_reads' HO358.out).2.1)
        (case side9 => exact cRx9 HO361.out)
        (case side10 => exact (Kd.R_reads' HO361.out).2.1)
        (case side11 => exact cRx9 HO364.out)
        (case side12 => exact (Kd.R_reads' HO364.out).2.1)
        rintro e w89 ⟨rfl, hb⟩
        refine ⟨_, rfl, ?_⟩
        replace HO_6 := Aside0.mk (Kd.S_below (rSx9 HO_6.out) hb)
        replace HO_10 := Aside0.mk (Kd.S_below (rSx9 HO_10.out) hb)
        replace HO_322003 := Aside0.mk (Kd.R_below (rRx9 HO_322003.out) hb)
        replace HO_322004 := Aside0.mk (Kd.R_below (rRx9 HO_322004.out) hb)
        replace HO_322005 := Aside0.mk (Kd.R_below (rRx9 HO_322005.out) hb)
        replace HO_335003 := Aside0.mk (Kd.R_below (rRx9 HO_335003.out) hb)
        replace HO_335004 := Aside0.mk (Kd.R_below (rRx9 HO_335004.out) hb)
        replace HO_335005 := Aside0.mk (Kd.R_below (rRx9 HO_335005.out) hb)
        replace HO358 := Aside0.mk (Kd.R_below (rRx9 HO358.out) hb)
        replace HO361 := Aside0.mk (Kd.R_below (rRx9 HO361.out) hb)
        replace HO364 := Aside0.mk (Kd.R_below (rRx9 HO364.out) hb)
        replace BK277 := Aside0.mk (blk_below (rBx9 BK277.out) hb)
        replace BK278 := Aside0.mk (blk_below (rBx9 BK278.out) hb)
        replace BK321 := Aside0.mk (blk_below (rBx9 BK321.out) hb)
        replace BK334 := Aside0.mk (blk_below (rBx9 BK334.out) hb)
        replace HB := Aside0.mk (below_step (be4x9 HB.out GE277.out GE278.out GE321.out GE334.out) hb)
        (try clear hb)
        (try clear hb2)
        (try clear hk)
        (try clear hi)
        refine hK.out _ _ (ca6x9 BK334.out (cc6x9 BK278.out)) (fun hHeld => ?_)
        clear hK K
        refine norm_ (a' := ?_) ?_ ?_
        rotate_left
        ·show Act.put _ (some 62) _ = _
         simp only [Act.put, List.setIfInBounds_toArray, List.set_cons_zero, List.set_cons_succ, i64_w, i32_w]
         rfl
        refine pure_ (i := 4) (N := some 63) (v := ?_) (a' := ?_) #[true, true, true, true, true] rfl rfl (by kernel_rfl) (fun _ _ _ h => h) (Or.inl ⟨by rfl, ?_⟩) ?_ ?_
        rotate_left
        ·intro w'
         go_simp
         with_reducible rfl
        rotate_left
        ·simp only [Act.put, List.setIfInBounds_toArray, List.set_cons_zero, List.set_cons_succ, i64_w, i32_w]
         rfl
        refine done_ (by kernel_rfl) ?_
        go_upto_if 63 with (fail)
        go_cut [] (fun wc => ∃ (kq : Nat), Aside0 (laws_FnExactLevelGaps.j2 kq t305 t308 t335 t338 a0_0 a0_1 a0_2 l0_3 l0_4 l0_5 a1_0 a1_1 a1_2 l1_3 l1_4 l1_5 t309 t310 t311 t312 t315 t318 t322 t323 t324 t325 t328 t331 = some r) ∧ Aside0 (kq ≤ kj72) ∧ Aside0 (Kd.S (Kd.slice 3 (Kd.int .i64)) 24 wc w.heap.size (fun k_ => (some k_ ≠ (v336 : Value).ownBlock ∧ k_ < N_) ∧ some k_ ≠ ((.slice Ao49 t312.length co49) : Value).ownBlock ∧ some k_ ≠ ((.slice Ao50 t315.length co50) : Value).ownBlock ∧ some k_ ≠ ((.slice Ao51 t318.length co51) : Value).ownBlock ∧ some k_ ≠ ((.slice Ao59 t325.length co59) : Value).ownBlock ∧ some k_ ≠ ((.slice Ao60 t328.length co60) : Value).ownBlock ∧ some k_ ≠ ((.slice Ao61 t331.length co61) : Value).ownBlock) v306 t305) ∧ Aside0 (Kd.S (Kd.slice 3 (Kd.int .i64)) 24 wc w.heap.size (fun k_ => (some k_ ≠ (v306 : Value).ownBlock ∧ N_ ≤ k_) ∧ some k_ ≠ ((.slice Ao49 t312.length co49) : Value).ownBlock ∧ some k_ ≠ ((.slice Ao50 t315.length co50) : Value).ownBlock ∧ some k_ ≠ ((.slice Ao51 t318.length co51) : Value).ownBlock ∧ some k_ ≠ ((.slice Ao59 t325.length co59) : Value).ownBlock ∧ some k_ ≠ ((.slice Ao60 t328.length co60) : Value).ownBlock ∧ some k_ ≠ ((.slice Ao61 t331.length co61) : Value).ownBlock) v336 t335) ∧ Aside0 (Kd.R (Kd.int .i64) 3 wc w.heap.size (fun k_ => some k_ ≠ ((.slice Ao50 t315.length co50) : Value).ownBlock ∧ some k_ ≠ ((.slice Ao51 t318.length co51) : Value).ownBlock ∧ some k_ ≠ ((.slice Ao59 t325.length co59) : Value).ownBlock ∧ some k_ ≠ ((.slice Ao60 t328.length co60) : Value).ownBlock ∧ some k_ ≠ ((.slice Ao61 t331.length co61) : Value).ownBlock) (.slice Ao49 t312.length co49) t312) ∧ Aside0 (Kd.R (Kd.int .i64) 3 wc w.heap.size (fun k_ => some k_ ≠ ((.slice Ao49 t312.length co49) : Value).ownBlock ∧ some k_ ≠ ((.slice Ao51 t318.length co51) : Value).ownBlock ∧ some k_ ≠ ((.slice Ao59 t325.length co59) : Value).ownBlock ∧ some k_ ≠ ((.slice Ao60 t328.length co60) : Value).ownBlock ∧ some k_ ≠ ((.slice Ao61 t331.length co61) : Value).ownBlock) (.slice Ao50 t315.length co50) t315) ∧ Aside0 (Kd.R (Kd.int .i64) 3 wc w.heap.size (fun k_ => some k_ ≠ ((.slice Ao49 t312.length co49) : Value).ownBlock ∧ some k_ ≠ ((.slice Ao50 t315.length co50) : Value).ownBlock ∧ some k_ ≠ ((.slice Ao59 t325.length co59) : Value).ownBlock ∧ some k_ ≠ ((.slice Ao60 t328.length co60) : Value).ownBlock ∧ some k_ ≠ ((.slice Ao61 t331.length co61) : Value).ownBlock) (.slice Ao51 t318.length co51) t318) ∧ Aside0 (Kd.R (Kd.int .i64) 3 wc w.heap.size (fun k_ => some k_ ≠ ((.slice Ao49 t312.length co49) : Value).ownBlock ∧ some k_ ≠ ((.slice Ao50 t315.length co50) : Value).ownBlock ∧ some k_ ≠ ((.slice Ao51 t318.length co51) : Value).ownBlock ∧ some k_ ≠ ((.slice Ao60 t328.length co60) : Value).ownBlock ∧ some k_ ≠ ((.slice Ao61 t331.length co61) : Value).ownBlock) (.slice Ao59 t325.length co59) t325) ∧ Aside0 (Kd.R (Kd.int .i64) 3 wc w.heap.size (fun k_ => some k_ ≠ ((.slice Ao49 t312.length co49) : Value).ownBlock ∧ some k_ ≠ ((.slice Ao50 t315.length co50) : Value).ownBlock ∧ some k_ ≠ ((.slice Ao51 t318.length co51) : Value).ownBlock ∧ some k_ ≠ ((.slice Ao59 t325.length co59) : Value).ownBlock ∧ some k_ ≠ ((.slice Ao61 t331.length co61) : Value).ownBlock) (.slice Ao60 t328.length co60) t328) ∧ Aside0 (Kd.R (Kd.int .i64) 3 wc w.heap.size (fun k_ => some k_ ≠ ((.slice Ao49 t312.length co49) : Value).ownBlock ∧ some k_ ≠ ((.slice Ao50 t315.length co50) : Value).ownBlock ∧ some k_ ≠ ((.slice Ao51 t318.length co51) : Value).ownBlock ∧ some k_ ≠ ((.slice Ao59 t325.length co59) : Value).ownBlock ∧ some k_ ≠ ((.slice Ao60 t328.length co60) : Value).ownBlock) (.slice Ao61 t331.length co61) t331) ∧ Aside0 (wc.heap[gb277]? = some (.cells #[.int .i64 a0_0, .int .i64 a0_1, .int .i64 a0_2, (.slice A0_3 l0_3.length c0_3), (.slice A0_4 l0_4.length c0_4), (.slice A0_5 l0_5.length c0_5)] 26 (0, 0))) ∧ Aside0 (wc.heap[gb278]? = some (.cells #[.int .i64 a1_0, .int .i64 a1_1, .int .i64 a1_2, (.slice A1_3 l1_3.length c1_3), (.slice A1_4 l1_4.length c1_4), (.slice A1_5 l1_5.length c1_5)] 26 (0, 0))) ∧ Aside0 (wc.heap[gb321]? = some (.cells #[.int .i64 t309, .int .i64 t310, .int .i64 t311, (.slice Ao49 t312.length co49), (.slice Ao50 t315.length co50), (.slice Ao51 t318.length co51)] 41 (0, 0))) ∧ Aside0 (wc.heap[gb334]? = some (.cells #[.int .i64 t322, .int .i64 t323, .int .i64 t324, (.slice Ao59 t325.length co59), (.slice Ao60 t328.length co60), (.slice Ao61 t331.length co61)] 41 (0, 0))) ∧ Aside0 (Below w.heap.size w wc))
        case first =>
         have H := HC83.out
         clear HC83
         by_cases c90 : t365 = true
         ·subst c90
          have H1 : (laws_FnExactLevelGaps.j2 kj72 t305 t308 t335 t338 a0_0 a0_1 a0_2 l0_3 l0_4 l0_5 a1_0 a1_1 a1_2 l1_3 l1_4 l1_5 t309 t310 t311 t312 t315 t318 t322 t323 t324 t325 t328 t331) = some r := by rw [if_pos rfl] at H; exact H
          clear H
          have H := H1
          clear H1
          have H' := Aside0.mk H
          clear H
          go_wp2
          go_meet
          case rel => exact ⟨_, H', ⟨by have := HJ24.out; have := HJ72.out; first | omega | exact Nat.le_refl _⟩, ⟨by (with_reducible repeat (first | apply Kd.S_alloc | apply Kd.S_drewN | apply Kd.S_drew)); exact Kd.S_mono HO_6.out (fun _ hk => ⟨hk.1.1.1.1, ⟨hk.1.1.1.2.1, ⟨hk.1.1.1.2.2.1, ⟨hk.1.1.1.2.2.2.1, ⟨hk.1.1.1.2.2.2.2.1, ⟨hk.1.1.1.2.2.2.2.2.1, hk.1.1.1.2.2.2.2.2.2⟩⟩⟩⟩⟩⟩)⟩, ⟨by (with_reducible repeat (first | apply Kd.S_alloc | apply Kd.S_drewN | apply Kd.S_drew)); exact Kd.S_mono HO_10.out (fun _ hk => ⟨hk.1.1.1.1, ⟨hk.1.1.1.2.1, ⟨hk.1.1.1.2.2.1, ⟨hk.1.1.1.2.2.2.1, ⟨hk.1.1.1.2.2.2.2.1, ⟨hk.1.1.1.2.2.2.2.2.1, hk.1.1.1.2.2.2.2.2.2⟩⟩⟩⟩⟩⟩)⟩, ⟨by exact rRx9 (mox9 HO_322003.out)⟩, ⟨by exact rRx9 (mox9 HO_322004.out)⟩, ⟨by exact rRx9 (mox9 HO_322005.out)⟩, ⟨by exact rRx9 (mox9 HO_335003.out)⟩, ⟨by exact rRx9 (mox9 HO_335004.out)⟩, ⟨by exact rRx9 (mox9 HO_335005.out)⟩, ⟨rBx9 BK277.out⟩, ⟨rBx9 BK278.out⟩, ⟨rBx9 BK321.out⟩, ⟨rBx9 BK334.out⟩, ⟨be4x9 HB.out GE277.out GE278.out GE321.out GE334.out⟩⟩
         ·replace c90 := Bool.eq_false_iff.mpr c90
          subst c90
          have H1 : (some false) = some r := by rw [if_neg (show ¬ (false = true) by decide)] at H; exact H
          clear H
          have H := H1
          clear H1
          obtain rfl := Option.some.inj H
          go_wp2
          go_ret
          exact ⟨by first | rfl | (simp [errW_none, errW_some] <;> rfl) | (simp [*, errW_none, errW_some] <;> rfl), be4x9 HB.out GE277.out GE278.out GE321.out GE334.out⟩
        case rest =>
         clear HC83
         try clear c90
         obtain ⟨kq, HA, HJ82, HO_6, HO_10, HO_322003, HO_322004, HO_322005, HO_335003, HO_335004, HO_335005, BK277, BK278, BK321, BK334, HB⟩ := hcut
         cases kq with
         | zero => exact absurd HA.out (by simp [laws_FnExactLevelGaps.j2])
         | succ kj82 =>
          have H := HA.out
          clear HA
          simp only [laws_FnExactLevelGaps.j2] at H
          replace H := Option.bind_eq_some_iff.mp H
          obtain ⟨⟨t366, t367, t368, t369⟩, A910, H⟩ := H
          (try dsimp only at H)
          have A91 := Aside0.mk A910
          clear A910
          replace H := Option.bind_eq_some_iff.mp H
          obtain ⟨⟨t370, t371, t372, t373⟩, A920, H⟩ := H
          (try dsimp only at H)
          have A92 := Aside0.mk A920
          clear A920
          have HC93 := Aside0.mk H
          clear H
          have hnb94 := NB321_277.out
          have hnc94 := NB277_321.out
          have hnb95 := NB321_278.out
          have hnc95 := NB278_321.out
          have hnb96 := NB321_334.out
          have hnc96 := NB334_321.out
          obtain ⟨hcz97_0, hcz97_1, hcz97_2, hcz97_3, hcz97_4, hcz97_5, hfz97_0, hfz97_1, hfz97_2, hfz97_3, hfz97_4, hfz97_5⟩ := cf6x9 BK321.out
          go_upto_region 21 with (first | ((with_reducible refine gate_callee (f := 27) rfl ?_); refine goesL_ (some 66) rfl rfl Try.func27 (by kernel_rfl) rfl #[.agg #[.int .i64 t309, .int .i64 t310, .int .i64 t311, .slice Ao49 t312.length co49, .slice Ao50 t315.length co50, .slice Ao51 t318.length co51], .int .i64 1] rfl mpx9 ?_; (with_reducible refine (laws_markModel.calls kj82 t309 t310 t311 (fun k_ => some k_ = (.slice Ao49 t312.length co49 : Value).ownBlock) (.slice Ao49 t312.length co49) t312 (fun k_ => some k_ = (.slice Ao50 t315.length co50 : Value).ownBlock) (.slice Ao50 t315.length co50) t315 (fun k_ => some k_ = (.slice Ao51 t318.length co51 : Value).ownBlock) (.slice Ao51 t318.length co51) t318 1 t366 t367 t368 t369 w _ ?side1 ?side2 ?side3 ?side4 ?side5 ?side6 ?side7 ?side8 ?side9 ?side10 A91.out).mono ?_); (case side1 => exact be4x9 HB.out GE277.out GE278.out GE321.out GE334.out); (case side2 => exact Kd.R_tight rfl HO_322003.out); (case side3 => exact fun k_ e_ => (HO_322003.out.1 k_ e_.symm).1); (case side4 => exact fun k_ e_ => (HO_322003.out.1 k_ e_.symm).2.1); (case side5 => exact Kd.R_tight rfl HO_322004.out); (case side6 => exact fun k_ e_ => (HO_322004.out.1 k_ e_.symm).1); (case side7 => exact fun k_ e_ => (HO_322004.out.1 k_ e_.symm).2.1); (case side8 => exact Kd.R_tight rfl HO_322005.out); (case side9 => exact fun k_ e_ => (HO_322005.out.1 k_ e_.symm).1); (case side10 => exact fun k_ e_ => (HO_322005.out.1 k_ e_.symm).2.1); rintro e w98 ⟨rfl, hy0, hy1, hy2, hb, hkp⟩; refine ⟨_, rfl, ?_⟩; replace HO_6 := Aside0.mk (Kd.S_mono (ok' := fun k_ => (some k_ ≠ (v336 : Value).ownBlock ∧ k_ < N_) ∧ some k_ ≠ (.slice Ao49 t312.length co49 : Value).ownBlock ∧ some k_ ≠ (.slice Ao50 t315.length co50 : Value).ownBlock ∧ some k_ ≠ (.slice Ao51 t318.length co51 : Value).ownBlock ∧ some k_ ≠ (.slice Ao59 t325.length co59 : Value).ownBlock ∧ some k_ ≠ (.slice Ao60 t328.length co60 : Value).ownBlock ∧ some k_ ≠ (.slice Ao61 t331.length co61 : Value).ownBlock) (Kd.S_keptB (HO_6.out) hkp (fun k_ hk_ hs_ => Or.elim hs_ (fun e_ => (hk_.2.1) e_) (fun e_ => Or.elim e_ (fun e_ => (hk_.2.2.1) e_) (fun e_ => (hk_.2.2.2.1) e_)))) (fun k_ hk_ => ⟨hk_.1.1, hk_.1.2.1, hk_.1.2.2.1, hk_.1.2.2.2.1, hk_.1.2.2.2.2.1, hk_.1.2.2.2.2.2.1, hk_.1.2.2.2.2.2.2⟩)); replace HO_10 := Aside0.mk (Kd.S_mono (ok' := fun k_ => (some k_ ≠ (v306 : Value).ownBlock ∧ N_ ≤ k_) ∧ some k_ ≠ (.slice Ao49 t312.length co49 : Value).ownBlock ∧ some k_ ≠ (.slice Ao50 t315.length co50 : Value).ownBlock ∧ some k_ ≠ (.slice Ao51 t318.length co51 : Value).ownBlock ∧ some k_ ≠ (.slice Ao59 t325.length co59 : Value).ownBlock ∧ some k_ ≠ (.slice Ao60 t328.length co60 : Value).ownBlock ∧ some k_ ≠ (.slice Ao61 t331.length co61 : Value).ownBlock) (Kd.S_keptB (HO_10.out) hkp (fun k_ hk_ hs_ => Or.elim hs_ (fun e_ => (hk_.2.1) e_) (fun e_ => Or.elim e_ (fun e_ => (hk_.2.2.1) e_) (fun e_ => (hk_.2.2.2.1) e_)))) (fun k_ hk_ => ⟨hk_.1.1, hk_.1.2.1, hk_.1.2.2.1, hk_.1.2.2.2.1, hk_.1.2.2.2.2.1, hk_.1.2.2.2.2.2.1, hk_.1.2.2.2.2.2.2⟩)); replace HO_335003 := Aside0.mk (Kd.R_mono (ok' := fun k_ => some k_ ≠ (.slice Ao49 t312.length co49 : Value).ownBlock ∧ some k_ ≠ (.slice Ao50 t315.length co50 : Value).ownBlock ∧ some k_ ≠ (.slice Ao51 t318.length co51 : Value).ownBlock ∧ some k_ ≠ (.slice Ao60 t328.length co60 : Value).ownBlock ∧ some k_ ≠ (.slice Ao61 t331.length co61 : Value).ownBlock) (Kd.R_keptB (HO_335003.out) hkp (fun k_ hk_ hs_ => Or.elim hs_ (fun e_ => (hk_.1) e_) (fun e_ => Or.elim e_ (fun e_ => (hk_.2.1) e_) (fun e_ => (hk_.2.2.1) e_)))) (fun k_ hk_ => ⟨hk_.1.1, hk_.1.2.1, hk_.1.2.2.1, hk_.1.2.2.2.1, hk_.1.2.2.2.2⟩)); replace HO_335004 := Aside0.mk (Kd.R_mono (ok' := fun k_ => some k_ ≠ (.slice Ao49 t312.length co49 : Value).ownBlock ∧ some k_ ≠ (.slice Ao50 t315.length co50 : Value).ownBlock ∧ some k_ ≠ (.slice Ao51 t318.length co51 : Value).ownBlock ∧ some k_ ≠ (.slice Ao59 t325.length co59 : Value).ownBlock ∧ some k_ ≠ (.slice Ao61 t331.length co61 : Value).ownBlock) (Kd.R_keptB (HO_335004.out) hkp (fun k_ hk_ hs_ => Or.elim hs_ (fun e_ => (hk_.1) e_) (fun e_ => Or.elim e_ (fun e_ => (hk_.2.1) e_) (fun e_ => (hk_.2.2.1) e_)))) (fun k_ hk_ => ⟨hk_.1.1, hk_.1.2.1, hk_.1.2.2.1, hk_.1.2.2.2.1, hk_.1.2.2.2.2⟩)); replace HO_335005 := Aside0.mk (Kd.R_mono (ok' := fun k_ => some k_ ≠ (.slice Ao49 t312.length co49 : Value).ownBlock ∧ some k_ ≠ (.slice Ao50 t315.length co50 : Value).ownBlock ∧ some k_ ≠ (.slice Ao51 t318.length co51 : Value).ownBlock ∧ some k_ ≠ (.slice Ao59 t325.length co59 : Value).ownBlock ∧ some k_ ≠ (.slice Ao60 t328.length co60 : Value).ownBlock) (Kd.R_keptB (HO_335005.out) hkp (fun k_ hk_ hs_ => Or.elim hs_ (fun e_ => (hk_.1) e_) (fun e_ => Or.elim e_ (fun e_ => (hk_.2.1) e_) (fun e_ => (hk_.2.2.1) e_)))) (fun k_ hk_ => ⟨hk_.1.1, hk_.1.2.1, hk_.1.2.2.1, hk_.1.2.2.2.1, hk_.1.2.2.2.2⟩)); replace BK277 := Aside0.mk (blk_kept (rBx9 BK277.out) hkp (fun hs_ => Or.elim hs_ (fun e_ => (fun e_ => (Kd.R_ne HO_322003.out BK277.out (by decide)) e_) e_) (fun e_ => Or.elim e_ (fun e_ => (fun e_ => (Kd.R_ne HO_322004.out BK277.out (by decide)) e_) e_) (fun e_ => (fun e_ => (Kd.R_ne HO_322005.out BK277.out (by decide)) e_) e_)))); replace BK278 := Aside0.mk (blk_kept (rBx9 BK278.out) hkp (fun hs_ => Or.elim hs_ (fun e_ => (fun e_ => (Kd.R_ne HO_322003.out BK278.out (by decide)) e_) e_) (fun e_ => Or.elim e_ (fun e_ => (fun e_ => (Kd.R_ne HO_322004.out BK278.out (by decide)) e_) e_) (fun e_ => (fun e_ => (Kd.R_ne HO_322005.out BK278.out (by decide)) e_) e_)))); replace BK321 := Aside0.mk (blk_kept (rBx9 BK321.out) hkp (fun hs_ => Or.elim hs_ (fun e_ => (fun e_ => (Kd.R_ne HO_322003.out BK321.out (by decide)) e_) e_) (fun e_ => Or.elim e_ (fun e_ => (fun e_ => (Kd.R_ne HO_322004.out BK321.out (by decide)) e_) e_) (fun e_ => (fun e_ => (Kd.R_ne HO_322005.out BK321.out (by decide)) e_) e_)))); replace BK334 := Aside0.mk (blk_kept (rBx9 BK334.out) hkp (fun hs_ => Or.elim hs_ (fun e_ => (fun e_ => (Kd.R_ne HO_322003.out BK334.out (by decide)) e_) e_) (fun e_ => Or.elim e_ (fun e_ => (fun e_ => (Kd.R_ne HO_322004.out BK334.out (by decide)) e_) e_) (fun e_ => (fun e_ => (Kd.R_ne HO_322005.out BK334.out (by decide)) e_) e_)))); replace HO_322003 := Aside0.mk (Kd.R_reok rfl hy0 (fun k_ e_ => HO_322003.out.1 k_ e_)); replace HO_322004 := Aside0.mk (Kd.R_reok rfl hy1 (fun k_ e_ => HO_322004.out.1 k_ e_)); replace HO_322005 := Aside0.mk (Kd.R_reok rfl hy2 (fun k_ e_ => HO_322005.out.1 k_ e_)); replace HB := Aside0.mk (hb); (try clear hb); (try clear hkp); (try clear hy0); (try clear hy1); (try clear hy2); have hnb99 := NB334_277.out; have hnc99 := NB277_334.out; have hnb100 := NB334_278.out; have hnc100 := NB278_334.out; obtain ⟨hcz101_0, hcz101_1, hcz101_2, hcz101_3, hcz101_4, hcz101_5, hfz101_0, hfz101_1, hfz101_2, hfz101_3, hfz101_4, hfz101_5⟩ := cf6x9 BK334.out) | ((with_reducible refine gate_callee (f := 27) rfl ?_); refine goesL_ (some 69) rfl rfl Try.func27 (by kernel_rfl) rfl #[.agg #[.int .i64 t322, .int .i64 t323, .int .i64 t324, .slice Ao59 t325.length co59, .slice Ao60 t328.length co60, .slice Ao61 t331.length co61], .int .i64 t366] rfl mpx9 ?_; (with_reducible refine (laws_markModel.calls kj82 t322 t323 t324 (fun k_ => some k_ = (.slice Ao59 t325.length co59 : Value).ownBlock) (.slice Ao59 t325.length co59) t325 (fun k_ => some k_ = (.slice Ao60 t328.length co60 : Value).ownBlock) (.slice Ao60 t328.length co60) t328 (fun k_ => some k_ = (.slice Ao61 t331.length co61 : Value).ownBlock) (.slice Ao61 t331.length co61) t331 t366 t370 t371 t372 t373 w _ ?side1 ?side2 ?side3 ?side4 ?side5 ?side6 ?side7 ?side8 ?side9 ?side10 A92.out).mono ?_); (case side1 => exact be4x9 HB.out GE277.out GE278.out GE321.out GE334.out); (case side2 => exact Kd.R_tight rfl HO_335003.out); (case side3 => exact fun k_ e_ => (HO_335003.out.1 k_ e_.symm).2.2.2.1); (case side4 => exact fun k_ e_ => (HO_335003.out.1 k_ e_.symm).2.2.2.2); (case side5 => exact Kd.R_tight rfl HO_335004.out); (case side6 => exact fun k_ e_ => (HO_335004.out.1 k_ e_.symm).2.2.2.1); (case side7 => exact fun k_ e_ => (HO_335004.out.1 k_ e_.symm).2.2.2.2); (case side8 => exact Kd.R_tight rfl HO_335005.out); (case side9 => exact fun k_ e_ => (HO_335005.out.1 k_ e_.symm).2.2.2.1); (case side10 => exact fun k_ e_ => (HO_335005.out.1 k_ e_.symm).2.2.2.2); rintro e w102 ⟨rfl, hy0, hy1, hy2, hb, hkp⟩; refine ⟨_, rfl, ?_⟩; replace HO_6 := Aside0.mk (Kd.S_mono (ok' := fun k_ => (some k_ ≠ (v336 : Value).ownBlock ∧ k_ < N_) ∧ some k_ ≠ (.slice Ao49 t312.length co49 : Value).ownBlock ∧ some k_ ≠ (.slice Ao50 t315.length co50 : Value).ownBlock ∧ some k_ ≠ (.slice Ao51 t318.length co51 : Value).ownBlock ∧ some k_ ≠ (.slice Ao59 t325.length co59 : Value).ownBlock ∧ some k_ ≠ (.slice Ao60 t328.length co60 : Value).ownBlock ∧ some k_ ≠ (.slice Ao61 t331.length co61 : Value).ownBlock) (Kd.S_keptB (HO_6.out) hkp (fun k_ hk_ hs_ => Or.elim hs_ (fun e_ => (hk_.2.2.2.2.1) e_) (fun e_ => Or.elim e_ (fun e_ => (hk_.2.2.2.2.2.1) e_) (fun e_ => (hk_.2.2.2.2.2.2) e_)))) (fun k_ hk_ => ⟨hk_.1.1, hk_.1.2.1, hk_.1.2.2.1, hk_.1.2.2.2.1, hk_.1.2.2.2.2.1, hk_.1.2.2.2.2.2.1, hk_.1.2.2.2.2.2.2⟩)); replace HO_10 := Aside0.mk (Kd.S_mono (ok' := fun k_ => (some k_ ≠ (v306 : Value).ownBlock ∧ N_ ≤ k_) ∧ some k_ ≠ (.slice Ao49 t312.length co49 : Value).ownBlock ∧ some k_ ≠ (.slice Ao50 t315.length co50 : Value).ownBlock ∧ some k_ ≠ (.slice Ao51 t318.length co51 : Value).ownBlock ∧ some k_ ≠ (.slice Ao59 t325.length co59 : Value).ownBlock ∧ some k_ ≠ (.slice Ao60 t328.length co60 : Value).ownBlock ∧ some k_ ≠ (.slice Ao61 t331.length co61 : Value).ownBlock) (Kd.S_keptB (HO_10.out) hkp (fun k_ hk_ hs_ => Or.elim hs_ (fun e_ => (hk_.2.2.2.2.1) e_) (fun e_ => Or.elim e_ (fun e_ => (hk_.2.2.2.2.2.1) e_) (fun e_ => (hk_.2.2.2.2.2.2) e_)))) (fun k_ hk_ => ⟨hk_.1.1, hk_.1.2.1, hk_.1.2.2.1, hk_.1.2.2.2.1, hk_.1.2.2.2.2.1, hk_.1.2.2.2.2.2.1, hk_.1.2.2.2.2.2.2⟩)); replace HO_322003 := Aside0.mk (Kd.R_mono (ok' := fun k_ => some k_ ≠ (.slice Ao50 t315.length co50 : Value).ownBlock ∧ some k_ ≠ (.slice Ao51 t318.length co51 : Value).ownBlock ∧ some k_ ≠ (.slice Ao59 t325.length co59 : Value).ownBlock ∧ some k_ ≠ (.slice Ao60 t328.length co60 : Value).ownBlock ∧ some k_ ≠ (.slice Ao61 t331.length co61 : Value).ownBlock) (Kd.R_keptB (HO_322003.out) hkp (fun k_ hk_ hs_ => Or.elim hs_ (fun e_ => (hk_.2.2.1) e_) (fun e_ => Or.elim e_ (fun e_ => (hk_.2.2.2.1) e_) (fun e_ => (hk_.2.2.2.2) e_)))) (fun k_ hk_ => ⟨hk_.1.1, hk_.1.2.1, hk_.1.2.2.1, hk_.1.2.2.2.1, hk_.1.2.2.2.2⟩)); replace HO_322004 := Aside0.mk (Kd.R_mono (ok' := fun k_ => some k_ ≠ (.slice Ao49 t312.length co49 : Value).ownBlock ∧ some k_ ≠ (.slice Ao51 t318.length co51 : Value).ownBlock ∧ some k_ ≠ (.slice Ao59 t325.length co59 : Value).ownBlock ∧ some k_ ≠ (.slice Ao60 t328.length co60 : Value).ownBlock ∧ some k_ ≠ (.slice Ao61 t331.length co61 : Value).ownBlock) (Kd.R_keptB (HO_322004.out) hkp (fun k_ hk_ hs_ => Or.elim hs_ (fun e_ => (hk_.2.2.1) e_) (fun e_ => Or.elim e_ (fun e_ => (hk_.2.2.2.1) e_) (fun e_ => (hk_.2.2.2.2) e_)))) (fun k_ hk_ => ⟨hk_.1.1, hk_.1.2.1, hk_.1.2.2.1, hk_.1.2.2.2.1, hk_.1.2.2.2.2⟩)); replace HO_322005 := Aside0.mk (Kd.R_mono (ok' := fun k_ => some k_ ≠ (.slice Ao49 t312.length co49 : Value).ownBlock ∧ some k_ ≠ (.slice Ao50 t315.length co50 : Value).ownBlock ∧ some k_ ≠ (.slice Ao59 t325.length co59 : Value).ownBlock ∧ some k_ ≠ (.slice Ao60 t328.length co60 : Value).ownBlock ∧ some k_ ≠ (.slice Ao61 t331.length co61 : Value).ownBlock) (Kd.R_keptB (HO_322005.out) hkp (fun k_ hk_ hs_ => Or.elim hs_ (fun e_ => (hk_.2.2.1) e_) (fun e_ => Or.elim e_ (fun e_ => (hk_.2.2.2.1) e_) (fun e_ => (hk_.2.2.2.2) e_)))) (fun k_ hk_ => ⟨hk_.1.1, hk_.1.2.1, hk_.1.2.2.1, hk_.1.2.2.2.1, hk_.1.2.2.2.2⟩)); replace BK277 := Aside0.mk (blk_kept (rBx9 BK277.out) hkp (fun hs_ => Or.elim hs_ (fun e_ => (fun e_ => (Kd.R_ne HO_335003.out BK277.out (by decide)) e_) e_) (fun e_ => Or.elim e_ (fun e_ => (fun e_ => (Kd.R_ne HO_335004.out BK277.out (by decide)) e_) e_) (fun e_ => (fun e_ => (Kd.R_ne HO_335005.out BK277.out (by decide)) e_) e_)))); replace BK278 := Aside0.mk (blk_kept (rBx9 BK278.out) hkp (fun hs_ => Or.elim hs_ (fun e_ => (fun e_ => (Kd.R_ne HO_335003.out BK278.out (by decide)) e_) e_) (fun e_ => Or.elim e_ (fun e_ => (fun e_ => (Kd.R_ne HO_335004.out BK278.out (by decide)) e_) e_) (fun e_ => (fun e_ => (Kd.R_ne HO_335005.out BK278.out (by decide)) e_) e_)))); replace BK321 := Aside0.mk (blk_kept (rBx9 BK321.out) hkp (fun hs_ => Or.elim hs_ (fun e_ => (fun e_ => (Kd.R_ne HO_335003.out BK321.out (by decide)) e_) e_) (fun e_ => Or.elim e_ (fun e_ => (fun e_ => (Kd.R_ne HO_335004.out BK321.out (by decide)) e_) e_) (fun e_ => (fun e_ => (Kd.R_ne HO_335005.out BK321.out (by decide)) e_) e_)))); replace BK334 := Aside0.mk (blk_kept (rBx9 BK334.out) hkp (fun hs_ => Or.elim hs_ (fun e_ => (fun e_ => (Kd.R_ne HO_335003.out BK334.out (by decide)) e_) e_) (fun e_ => Or.elim e_ (fun e_ => (fun e_ => (Kd.R_ne HO_335004.out BK334.out (by decide)) e_) e_) (fun e_ => (fun e_ => (Kd.R_ne HO_335005.out BK334.out (by decide)) e_) e_)))); replace HO_335003 := Aside0.mk (Kd.R_reok rfl hy0 (fun k_ e_ => HO_335003.out.1 k_ e_)); replace HO_335004 := Aside0.mk (Kd.R_reok rfl hy1 (fun k_ e_ => HO_335004.out.1 k_ e_)); replace HO_335005 := Aside0.mk (Kd.R_reok rfl hy2 (fun k_ e_ => HO_335005.out.1 k_ e_)); replace HB := Aside0.mk (hb); (try clear hb); (try clear hkp); (try clear hy0); (try clear hy1); (try clear hy2)))
          (try simp only [Act.put, List.setIfInBounds_toArray, List.set_cons_zero, List.set_cons_succ])
          go_cut [82] (fun v82 wc => ∃ (kq : Nat) (x82_92 : Bool), v82 = .bool x82_92 ∧ Aside0 (laws_FnExactLevelGaps.j3 kq t305 t308 t335 x82_92 a0_0 a0_1 a0_2 l0_3 l0_4 l0_5 a1_0 a1_1 a1_2 l1_3 l1_4 l1_5 = some r) ∧ Aside0 (kq ≤ kj82) ∧ Aside0 (Kd.S (Kd.slice 3 (Kd.int .i64)) 24 wc w.heap.size (fun k_ => (some k_ ≠ (v336 : Value).ownBlock ∧ k_ < N_) ∧ some k_ ≠ ((.slice Ao49 t312.length co49) : Value).ownBlock ∧ some k_ ≠ ((.slice Ao50 t315.length co50) : Value).ownBlock ∧ some k_ ≠ ((.slice Ao51 t318.length co51) : Value).ownBlock ∧ some k_ ≠ ((.slice Ao59 t325.length co59) : Value).ownBlock ∧ some k_ ≠ ((.slice Ao60 t328.length co60) : Value).ownBlock ∧ some k_ ≠ ((.slice Ao61 t331.length co61) : Value).ownBlock) v306 t305) ∧ Aside0 (Kd.S (Kd.slice 3 (Kd.int .i64)) 24 wc w.heap.size (fun k_ => (some k_ ≠ (v306 : Value).ownBlock ∧ N_ ≤ k_) ∧ some k_ ≠ ((.slice Ao49 t312.length co49) : Value).ownBlock ∧ some k_ ≠ ((.slice Ao50 t315.length co50) : Value).ownBlock ∧ some k_ ≠ ((.slice Ao51 t318.length co51) : Value).ownBlock ∧ some k_ ≠ ((.slice Ao59 t325.length co59) : Value).ownBlock ∧ some k_ ≠ ((.slice Ao60 t328.length co60) : Value).ownBlock ∧ some k_ ≠ ((.slice Ao61 t331.length co61) : Value).ownBlock) v336 t335) ∧ Aside0 (Kd.R (Kd.int .i64) 3 wc w.heap.size (fun k_ => some k_ ≠ ((.slice Ao50 t315.length co50) : Value).ownBlock ∧ some k_ ≠ ((.slice Ao51 t318.length co51) : Value).ownBlock ∧ some k_ ≠ ((.slice Ao59 t325.length co59) : Value).ownBlock ∧ some k_ ≠ ((.slice Ao60 t328.length co60) : Value).ownBlock ∧ some k_ ≠ ((.slice Ao61 t331.length co61) : Value).ownBlock) (.slice Ao49 t312.length co49) t367) ∧ Aside0 (Kd.R (Kd.int .i64) 3 wc w.heap.size (fun k_ => some k_ ≠ ((.slice Ao49 t312.length co49) : Value).ownBlock ∧ some k_ ≠ ((.slice Ao51 t318.length co51) : Value).ownBlock ∧ some k_ ≠ ((.slice Ao59 t325.length co59) : Value).ownBlock ∧ some k_ ≠ ((.slice Ao60 t328.length co60) : Value).ownBlock ∧ some k_ ≠ ((.slice Ao61 t331.length co61) : Value).ownBlock) (.slice Ao50 t315.length co50) t368) ∧ Aside0 (Kd.R (Kd.int .i64) 3 wc w.heap.size (fun k_ => some k_ ≠ ((.slice Ao49 t312.length co49) : Value).ownBlock ∧ some k_ ≠ ((.slice Ao50 t315.length co50) : Value).ownBlock ∧ some k_ ≠ ((.slice Ao59 t325.length co59) : Value).ownBlock ∧ some k_ ≠ ((.slice Ao60 t328.length co60) : Value).ownBlock ∧ some k_ ≠ ((.slice Ao61 t331.length co61) : Value).ownBlock) (.slice Ao51 t318.length co51) t369) ∧ Aside0 (Kd.R (Kd.int .i64) 3 wc w.heap.size (fun k_ => some k_ ≠ ((.slice Ao49 t312.length co49) : Value).ownBlock ∧ some k_ ≠ ((.slice Ao50 t315.length co50) : Value).ownBlock ∧ some k_ ≠ ((.slice Ao51 t318.length co51) : Value).ownBlock ∧ some k_ ≠ ((.slice Ao60 t328.length co60) : Value).ownBlock ∧ some k_ ≠ ((.slice Ao61 t331.length co61) : Value).ownBlock) (.slice Ao59 t325.length co59) t371) ∧ Aside0 (Kd.R (Kd.int .i64) 3 wc w.heap.size (fun k_ => some k_ ≠ ((.slice Ao49 t312.length co49) : Value).ownBlock ∧ some k_ ≠ ((.slice Ao50 t315.length co50) : Value).ownBlock ∧ some k_ ≠ ((.slice Ao51 t318.length co51) : Value).ownBlock ∧ some k_ ≠ ((.slice Ao59 t325.length co59) : Value).ownBlock ∧ some k_ ≠ ((.slice Ao61 t331.length co61) : Value).ownBlock) (.slice Ao60 t328.length co60) t372) ∧ Aside0 (Kd.R (Kd.int .i64) 3 wc w.heap.size (fun k_ => some k_ ≠ ((.slice Ao49 t312.length co49) : Value).ownBlock ∧ some k_ ≠ ((.slice Ao50 t315.length co50) : Value).ownBlock ∧ some k_ ≠ ((.slice Ao51 t318.length co51) : Value).ownBlock ∧ some k_ ≠ ((.slice Ao59 t325.length co59) : Value).ownBlock ∧ some k_ ≠ ((.slice Ao60 t328.length co60) : Value).ownBlock) (.slice Ao61 t331.length co61) t373) ∧ Aside0 (wc.heap[gb277]? = some (.cells #[.int .i64 a0_0, .int .i64 a0_1, .int .i64 a0_2, (.slice A0_3 l0_3.length c0_3), (.slice A0_4 l0_4.length c0_4), (.slice A0_5 l0_5.length c0_5)] 26 (0, 0))) ∧ Aside0 (wc.heap[gb278]? = some (.cells #[.int .i64 a1_0, .int .i64 a1_1, .int .i64 a1_2, (.slice A1_3 l1_3.length c1_3), (.slice A1_4 l1_4.length c1_4), (.slice A1_5 l1_5.length c1_5)] 26 (0, 0))) ∧ Aside0 (wc.heap[gb321]? = some (.cells #[.int .i64 t309, .int .i64 t310, .int .i64 t311, (.slice Ao49 t312.length co49), (.slice Ao50 t315.length co50), (.slice Ao51 t318.length co51)] 41 (0, 0))) ∧ Aside0 (wc.heap[gb334]? = some (.cells #[.int .i64 t322, .int .i64 t323, .int .i64 t324, (.slice Ao59 t325.length co59), (.slice Ao60 t328.length co60), (.slice Ao61 t331.length co61)] 41 (0, 0))) ∧ Aside0 (Below w.heap.size w wc))
          case first =>
           have H := HC93.out
           clear HC93
           by_cases c103 : t370 < 0
           ·rw [if_pos c103] at H
            have c103b0 : decide (t370 < 0) = true := decide_eq_true c103
            clear c103
            (first | rw [c103b0] | (simp only [i64_w, i32_w]; rw [c103b0]) | skip)
            have H' := Aside0.mk H
            clear H
            go_wp2
            go_meet
            case rel => exact ⟨_, (true), (by first | rfl | (simp; done) | (simp [*]; done)), H', ⟨by have := HJ24.out; have := HJ72.out; have := HJ82.out; first | omega | exact Nat.le_refl _⟩, ⟨rSx9 HO_6.out⟩, ⟨rSx9 HO_10.out⟩, ⟨rRx9 HO_322003.out⟩, ⟨rRx9 HO_322004.out⟩, ⟨rRx9 HO_322005.out⟩, ⟨rRx9 HO_335003.out⟩, ⟨rRx9 HO_335004.out⟩, ⟨rRx9 HO_335005.out⟩, ⟨rBx9 BK277.out⟩, ⟨rBx9 BK278.out⟩, ⟨rBx9 BK321.out⟩, ⟨rBx9 BK334.out⟩, ⟨be4x9 HB.out GE277.out GE278.out GE321.out GE334.out⟩⟩
           ·rw [if_neg c103] at H
            have c103b0 : decide (t370 < 0) = false := decide_eq_false c103
            clear c103
            (first | rw [c103b0] | (simp only [i64_w, i32_w]; rw [c103b0]) | skip)
            replace H := Option.bind_eq_some_iff.mp H
            obtain ⟨t374, A1040, H⟩ := H
            have A104 := Aside0.mk A1040
            clear A1040
            by_cases c105 : t374 = true
            ·subst c105
             have H1 : (laws_FnExactLevelGaps.j3 kj82 t305 t308 t335 (t338 != t308) a0_0 a0_1 a0_2 l0_3 l0_4 l0_5 a1_0 a1_1 a1_2 l1_3 l1_4 l1_5) = some r := by rw [if_pos rfl] at H; exact H
             clear H
             have H := H1
             clear H1
             have H' := Aside0.mk H
             clear H
             obtain ⟨Ao106, co106, eo106⟩ := Kd.S_slice HO_10.out
             subst eo106
             obtain ⟨Ao107, co107, eo107⟩ := Kd.S_slice HO_6.out
             subst eo107
             go_wp2_with (first | (go_at_call 36; (with_reducible refine (laws_eqIntSS.calls kj82 _ _ t335 _ _ t305 true _ ?side1 ?side2 ?side3 ?side4 A104.out).mono ?_); (case side1 => repeat (first | exact (Kd.S_reads' HO_10.out).2.2 | (with_reducible refine Kd.C_alloc ?_ _) | (with_reducible refine Kd.C_drewN ?_ _) | (with_reducible refine Kd.C_drew ?_))); (case side2 => exact (Kd.S_reads' HO_10.out).2.1); (case side3 => repeat (first | exact (Kd.S_reads' HO_6.out).2.2 | (with_reducible refine Kd.C_alloc ?_ _) | (with_reducible refine Kd.C_drewN ?_ _) | (with_reducible refine Kd.C_drew ?_))); (case side4 => exact (Kd.S_reads' HO_6.out).2.1); rintro e w' ⟨rfl, ⟨nd, rfl⟩⟩))
             go_meet
             case rel => exact ⟨_, ((t338 != t308)), (by first | rfl | (simp; done) | (simp [*]; done)), H', ⟨by have := HJ24.out; have := HJ72.out; have := HJ82.out; first | omega | exact Nat.le_refl _⟩, ⟨rSx9 HO_6.out⟩, ⟨rSx9 HO_10.out⟩, ⟨rRx9 HO_322003.out⟩, ⟨rRx9 HO_322004.out⟩, ⟨rRx9 HO_322005.out⟩, ⟨rRx9 HO_335003.out⟩, ⟨rRx9 HO_335004.out⟩, ⟨rRx9 HO_335005.out⟩, ⟨rBx9 BK277.out⟩, ⟨rBx9 BK278.out⟩, ⟨rBx9 BK321.out⟩, ⟨rBx9 BK334.out⟩, ⟨be4x9 HB.out GE277.out GE278.out GE321.out GE334.out⟩⟩
            ·replace c105 := Bool.eq_false_iff.mpr c105
             subst c105
             have H1 : (laws_FnExactLevelGaps.j3 kj82 t305 t308 t335 true a0_0 a0_1 a0_2 l0_3 l0_4 l0_5 a1_0 a1_1 a1_2 l1_3 l1_4 l1_5) = some r := by rw [if_neg (show ¬ (false = true) by decide)] at H; exact H
             clear H
             have H := H1
             clear H1
             have H' := Aside0.mk H
             clear H
             obtain ⟨Ao108, co108, eo108⟩ := Kd.S_slice HO_10.out
             subst eo108
             obtain ⟨Ao109, co109, eo109⟩ := Kd.S_slice HO_6.out
             subst eo109
             go_wp2_with (first | (go_at_call 36; (with_reducible refine (laws_eqIntSS.calls kj82 _ _ t335 _ _ t305 false _ ?side1 ?side2 ?side3 ?side4 A104.out).mono ?_); (case side1 => repeat (first | exact (Kd.S_reads' HO_10.out).2.2 | (with_reducible refine Kd.C_alloc ?_ _) | (with_reducible refine Kd.C_drewN ?_ _) | (with_reducible refine Kd.C_drew ?_))); (case side2 => exact (Kd.S_reads' HO_10.out).2.1); (case side3 => repeat (first | exact (Kd.S_reads' HO_6.out).2.2 | (with_reducible refine Kd.C_alloc ?_ _) | (with_reducible refine Kd.C_drewN ?_ _) | (with_reducible refine Kd.C_drew ?_))); (case side4 => exact (Kd.S_reads' HO_6.out).2.1); rintro e w' ⟨rfl, ⟨nd, rfl⟩⟩))
             go_meet
             case rel => exact ⟨_, (true), (by first | rfl | (simp; done) | (simp [*]; done)), H', ⟨by have := HJ24.out; have := HJ72.out; have := HJ82.out; first | omega | exact Nat.le_refl _⟩, ⟨rSx9 HO_6.out⟩, ⟨rSx9 HO_10.out⟩, ⟨rRx9 HO_322003.out⟩, ⟨rRx9 HO_322004.out⟩, ⟨rRx9 HO_322005.out⟩, ⟨rRx9 HO_335003.out⟩, ⟨rRx9 HO_335004.out⟩, ⟨rRx9 HO_335005.out⟩, ⟨rBx9 BK277.out⟩, ⟨rBx9 BK278.out⟩, ⟨rBx9 BK321.out⟩, ⟨rBx9 BK334.out⟩, ⟨be4x9 HB.out GE277.out GE278.out GE321.out GE334.out⟩⟩
          case rest =>
           clear HC93
           try clear c103; try clear c103b0; try clear c105; try clear hcz101_0 hcz101_1 hcz101_2 hcz101_3 hcz101_4 hcz101_5; try clear hcz97_0 hcz97_1 hcz97_2 hcz97_3 hcz97_4 hcz97_5; try clear hfz101_0 hfz101_1 hfz101_2 hfz101_3 hfz101_4 hfz101_5; try clear hfz97_0 hfz97_1 hfz97_2 hfz97_3 hfz97_4 hfz97_5
           obtain ⟨kq, x82_92, rfl, HA, HJ92, HO_6, HO_10, HO_322003, HO_322004, HO_322005, HO_335003, HO_335004, HO_335005, BK277, BK278, BK321, BK334, HB⟩ := hcut
           have hl322003_92 := (Kd.R_reads' HO_322003.out).1
           rw [hl322003_92] at HO_322003
           (try simp only [hl322003_92])
           (try simp only [hl322003_92] at BK277)
           (try simp only [hl322003_92] at BK278)
           (try simp only [hl322003_92] at BK321)
           (try simp only [hl322003_92] at BK334)
           (try simp only [hl322003_92] at HO_6)
           (try simp only [hl322003_92] at HO_10)
           (try simp only [hl322003_92] at HO_322004)
           (try simp only [hl322003_92] at HO_322005)
           (try simp only [hl322003_92] at HO_335003)
           (try simp only [hl322003_92] at HO_335004)
           (try simp only [hl322003_92] at HO_335005)
           have hl322004_92 := (Kd.R_reads' HO_322004.out).1
           rw [hl322004_92] at HO_322004
           (try simp only [hl322004_92])
           (try simp only [hl322004_92] at BK277)
           (try simp only [hl322004_92] at BK278)
           (try simp only [hl322004_92] at BK321)
           (try simp only [hl322004_92] at BK334)
           (try simp only [hl322004_92] at HO_6)
           (try simp only [hl322004_92] at HO_10)
           (try simp only [hl322004_92] at HO_322003)
           (try simp only [hl322004_92] at HO_322005)
           (try simp only [hl322004_92] at HO_335003)
           (try simp only [hl322004_92] at HO_335004)
           (try simp only [hl322004_92] at HO_335005)
           have hl322005_92 := (Kd.R_reads' HO_322005.out).1
           rw [hl322005_92] at HO_322005
           (try simp only [hl322005_92])
           (try simp only [hl322005_92] at BK277)
           (try simp only [hl322005_92] at BK278)
           (try simp only [hl322005_92] at BK321)
           (try simp only [hl322005_92] at BK334)
           (try simp only [hl322005_92] at HO_6)
           (try simp only [hl322005_92] at HO_10)
           (try simp only [hl322005_92] at HO_322003)
           (try simp only [hl322005_92] at HO_322004)
           (try simp only [hl322005_92] at HO_335003)
           (try simp only [hl322005_92] at HO_335004)
           (try simp only [hl322005_92] at HO_335005)
           have hl335003_92 := (Kd.R_reads' HO_335003.out).1
           rw [hl335003_92] at HO_335003
           (try simp only [hl335003_92])
           (try simp only [hl335003_92] at BK277)
           (try simp only [hl335003_92] at BK278)
           (try simp only [hl335003_92] at BK321)
           (try simp only [hl335003_92] at BK334)
           (try simp only [hl335003_92] at HO_6)
           (try simp only [hl335003_92] at HO_10)
           (try simp only [hl335003_92] at HO_322003)
           (try simp only [hl335003_92] at HO_322004)
           (try simp only [hl335003_92] at HO_322005)
           (try simp only [hl335003_92] at HO_335004)
           (try simp only [hl335003_92] at HO_335005)
           have hl335004_92 := (Kd.R_reads' HO_335004.out).1
           rw [hl335004_92] at HO_335004
           (try simp only [hl335004_92])
           (try simp only [hl335004_92] at BK277)
           (try simp only [hl335004_92] at BK278)
           (try simp only [hl335004_92] at BK321)
           (try simp only [hl335004_92] at BK334)
           (try simp only [hl335004_92] at HO_6)
           (try simp only [hl335004_92] at HO_10)
           (try simp only [hl335004_92] at HO_322003)
           (try simp only [hl335004_92] at HO_322004)
           (try simp only [hl335004_92] at HO_322005)
           (try simp only [hl335004_92] at HO_335003)
           (try simp only [hl335004_92] at HO_335005)
           have hl335005_92 := (Kd.R_reads' HO_335005.out).1
           rw [hl335005_92] at HO_335005
           (try simp only [hl335005_92])
           (try simp only [hl335005_92] at BK277)
           (try simp only [hl335005_92] at BK278)
           (try simp only [hl335005_92] at BK321)
           (try simp only [hl335005_92] at BK334)
           (try simp only [hl335005_92] at HO_6)
           (try simp only [hl335005_92] at HO_10)
           (try simp only [hl335005_92] at HO_322003)
           (try simp only [hl335005_92] at HO_322004)
           (try simp only [hl335005_92] at HO_322005)
           (try simp only [hl335005_92] at HO_335003)
           (try simp only [hl335005_92] at HO_335004)
           cases kq with
           | zero => exact absurd HA.out (by simp [laws_FnExactLevelGaps.j3])
           | succ kj92 =>
            have H := HA.out
            clear HA
            simp only [laws_FnExactLevelGaps.j3] at H
            by_cases c110 : x82_92 = true
            ·subst c110
             have H1 : (some false) = some r := by rw [if_pos rfl] at H; exact H
             clear H
             have H := H1
             clear H1
             obtain rfl := Option.some.inj H
             go_wp2
             go_ret
             exact ⟨by first | rfl | (simp [errW_none, errW_some] <;> rfl) | (simp [*, errW_none, errW_some] <;> rfl), be4x9 HB.out GE277.out GE278.out GE321.out GE334.out⟩
            ·replace c110 := Bool.eq_false_iff.mpr c110
             subst c110
             have H1 : ((laws_markIntSS.p kj92 t335 1).bind fun bt375 => ((laws_heldIntSS.f kj92 bt375.2 1).bind fun t377 => (if t377 < 0 then (some false) else (laws_FnExactLevelGaps.j4 kj92 t305 t308 bt375.2 bt375.1 t377 a0_0 a0_1 a0_2 l0_3 l0_4 l0_5 a1_0 a1_1 a1_2 l1_3 l1_4 l1_5)))) = some r := by rw [if_neg (show ¬ (false = true) by decide)] at H; exact H
             clear H
             have H := H1
             clear H1
             replace H := Option.bind_eq_some_iff.mp H
             obtain ⟨⟨t375, t376⟩, A1110, H⟩ := H
             (try dsimp only at H)
             have A111 := Aside0.mk A1110
             clear A1110
             replace H := Option.bind_eq_some_iff.mp H
             obtain ⟨t377, A1120, H⟩ := H
             have A112 := Aside0.mk A1120
             clear A1120
             have HC113 := Aside0.mk H
             clear H
             obtain ⟨Ao114, co114, eo114⟩ := Kd.S_slice HO_10.out
             subst eo114
             go_upto_if 90 with (first | ((with_reducible refine gate_callee (f := 37) rfl ?_); refine goesL_ (some 85) rfl rfl Try.func37 (by kernel_rfl) rfl #[.slice Ao114 t335.length co114, .int .i64 1] rfl mpx9 ?_; (with_reducible refine (laws_markIntSS.callsp kj92 (fun k_ => (((((some k_ ≠ (v306 : Value).ownBlock ∧ N_ ≤ k_) ∧ some k_ ≠ ((.slice Ao49 t367.length co49) : Value).ownBlock ∧ some k_ ≠ ((.slice Ao50 t368.length co50) : Value).ownBlock ∧ some k_ ≠ ((.slice Ao51 t369.length co51) : Value).ownBlock ∧ some k_ ≠ ((.slice Ao59 t371.length co59) : Value).ownBlock ∧ some k_ ≠ ((.slice Ao60 t372.length co60) : Value).ownBlock ∧ some k_ ≠ ((.slice Ao61 t373.length co61) : Value).ownBlock) ∧ k_ ≠ gb277) ∧ k_ ≠ gb278) ∧ k_ ≠ gb321) ∧ k_ ≠ gb334) (.slice Ao114 t335.length co114) t335 1 t375 t376 w _ ?side1 ?side2 A111.out).mono ?_); (case side1 => exact be4x9 HB.out GE277.out GE278.out GE321.out GE334.out); (case side2 => (with_reducible repeat (first | apply Kd.S_alloc | apply Kd.S_drewN | apply Kd.S_drew)); exact Kd.S_types (Kd.S_types (Kd.S_types (Kd.S_types HO_10.out BK277.out (by decide)) BK278.out (by decide)) BK321.out (by decide)) BK334.out (by decide)); rintro e w115 ⟨rfl, hy0, hb, hkp⟩; refine ⟨_, rfl, ?_⟩; have n0_ := Aside0.mk (Kd.S_mono (ok' := fun k_ => some k_ ≠ (.slice Ao114 t335.length co114 : Value).ownBlock ∧ some k_ ≠ ((.slice Ao49 t367.length co49) : Value).ownBlock ∧ some k_ ≠ ((.slice Ao50 t368.length co50) : Value).ownBlock ∧ some k_ ≠ ((.slice Ao51 t369.length co51) : Value).ownBlock ∧ some k_ ≠ ((.slice Ao59 t371.length co59) : Value).ownBlock ∧ some k_ ≠ ((.slice Ao60 t372.length co60) : Value).ownBlock ∧ some k_ ≠ ((.slice Ao61 t373.length co61) : Value).ownBlock) (S_kept_ HO_6.out hkp (fun k_ hk_ hs_ => Nat.not_le.2 hk_.1.2 hs_.1.1.1.1.1.2)) (fun k_ hk_ => ⟨hk_.1.1, hk_.2⟩)); have n1_ := Aside0.mk (Kd.S_mono (ok' := fun k_ => some k_ ≠ (v306 : Value).ownBlock ∧ some k_ ≠ ((.slice Ao49 t367.length co49) : Value).ownBlock ∧ some k_ ≠ ((.slice Ao50 t368.length co50) : Value).ownBlock ∧ some k_ ≠ ((.slice Ao51 t369.length co51) : Value).ownBlock ∧ some k_ ≠ ((.slice Ao59 t371.length co59) : Value).ownBlock ∧ some k_ ≠ ((.slice Ao60 t372.length co60) : Value).ownBlock ∧ some k_ ≠ ((.slice Ao61 t373.length co61) : Value).ownBlock) hy0 (fun k_ hk_ => hk_.elim (fun h_ => ⟨h_.1.1.1.1.1.1, h_.1.1.1.1.2⟩) (fun h_ => ⟨fun e_ => Nat.not_le.2 (Kd.S_lt HO_6.out k_ e_.symm) h_, fun e_ => Nat.not_le.2 (Kd.R_lt HO_322003.out k_ e_.symm) h_, fun e_ => Nat.not_le.2 (Kd.R_lt HO_322004.out k_ e_.symm) h_, fun e_ => Nat.not_le.2 (Kd.R_lt HO_322005.out k_ e_.symm) h_, fun e_ => Nat.not_le.2 (Kd.R_lt HO_335003.out k_ e_.symm) h_, fun e_ => Nat.not_le.2 (Kd.R_lt HO_335004.out k_ e_.symm) h_, fun e_ => Nat.not_le.2 (Kd.R_lt HO_335005.out k_ e_.symm) h_⟩))); have n2_ := Aside0.mk (Kd.R_reok rfl (Kd.R_step (Kd.R_tight rfl HO_322003.out) (fun k_ e_ hl_ => hkp.2 k_ hl_ (fun hs_ => hs_.1.1.1.1.2.1 e_))) (fun k_ e_ => HO_322003.out.1 k_ e_)); have n3_ := Aside0.mk (Kd.R_reok rfl (Kd.R_step (Kd.R_tight rfl HO_322004.out) (fun k_ e_ hl_ => hkp.2 k_ hl_ (fun hs_ => hs_.1.1.1.1.2.2.1 e_))) (fun k_ e_ => HO_322004.out.1 k_ e_)); have n4_ := Aside0.mk (Kd.R_reok rfl (Kd.R_step (Kd.R_tight rfl HO_322005.out) (fun k_ e_ hl_ => hkp.2 k_ hl_ (fun hs_ => hs_.1.1.1.1.2.2.2.1 e_))) (fun k_ e_ => HO_322005.out.1 k_ e_)); have n5_ := Aside0.mk (Kd.R_reok rfl (Kd.R_step (Kd.R_tight rfl HO_335003.out) (fun k_ e_ hl_ => hkp.2 k_ hl_ (fun hs_ => hs_.1.1.1.1.2.2.2.2.1 e_))) (fun k_ e_ => HO_335003.out.1 k_ e_)); have n6_ := Aside0.mk (Kd.R_reok rfl (Kd.R_step (Kd.R_tight rfl HO_335004.out) (fun k_ e_ hl_ => hkp.2 k_ hl_ (fun hs_ => hs_.1.1.1.1.2.2.2.2.2.1 e_))) (fun k_ e_ => HO_335004.out.1 k_ e_)); have n7_ := Aside0.mk (Kd.R_reok rfl (Kd.R_step (Kd.R_tight rfl HO_335005.out) (fun k_ e_ hl_ => hkp.2 k_ hl_ (fun hs_ => hs_.1.1.1.1.2.2.2.2.2.2 e_))) (fun k_ e_ => HO_335005.out.1 k_ e_)); have n8_ := Aside0.mk (blk_kept (rBx9 BK277.out) hkp (fun hs_ => hs_.1.1.1.2 rfl)); have n9_ := Aside0.mk (blk_kept (rBx9 BK278.out) hkp (fun hs_ => hs_.1.1.2 rfl)); have n10_ := Aside0.mk (blk_kept (rBx9 BK321.out) hkp (fun hs_ => hs_.1.2 rfl)); have n11_ := Aside0.mk (blk_kept (rBx9 BK334.out) hkp (fun hs_ => hs_.2 rfl)); have n12_ := Aside0.mk (hb); clear HO_6 HO_10 HO_322003 HO_322004 HO_322005 HO_335003 HO_335004 HO_335005 BK277 BK278 BK321 BK334 HB; have HO_6 := n0_; have HO_10 := n1_; have HO_322003 := n2_; have HO_322004 := n3_; have HO_322005 := n4_; have HO_335003 := n5_; have HO_335004 := n6_; have HO_335005 := n7_; have BK277 := n8_; have BK278 := n9_; have BK321 := n10_; have BK334 := n11_; have HB := n12_; clear n0_ n1_ n2_ n3_ n4_ n5_ n6_ n7_ n8_ n9_ n10_ n11_ n12_; (try clear hb); (try clear hkp); (try clear hy0)) | ((with_reducible refine gate_callee (f := 52) rfl ?_); refine goesL_ (some 88) rfl rfl Try.func52 (by kernel_rfl) rfl #[.slice Ao114 t376.length co114, .int .i64 1] rfl (by (try simp only [List.map_toArray, List.map_cons, List.map_nil]); first | done | (rw [show t376.length = t335.length from (Kd.S_reads' HO_10.out).1.symm] <;> rfl) | rfl | (simp only [List.length_drop, List.length_take]; rfl)) ?_; (with_reducible refine (laws_heldIntSS.calls kj92 _ _ t376 1 t377 _ ?side1 ?side2 A112.out).mono ?_); (case side1 => repeat (first | exact (Kd.S_reads' HO_10.out).2.2 | (with_reducible refine Kd.C_alloc ?_ _) | (with_reducible refine Kd.C_drewN ?_ _) | (with_reducible refine Kd.C_drew ?_))); (case side2 => rw [show t376.length = t335.length from (Kd.S_reads' HO_10.out).1.symm]; exact (Kd.S_reads' HO_10.out).2.1); rintro e w' ⟨rfl, ⟨nd, rfl⟩⟩; refine ⟨_, rfl, ?_⟩))
             (try simp only [Act.put, List.setIfInBounds_toArray, List.set_cons_zero, List.set_cons_succ])
             go_cut [] (fun wc => ∃ (kq : Nat), Aside0 (laws_FnExactLevelGaps.j4 kq t305 t308 t376 t375 t377 a0_0 a0_1 a0_2 l0_3 l0_4 l0_5 a1_0 a1_1 a1_2 l1_3 l1_4 l1_5 = some r) ∧ Aside0 (kq ≤ kj92) ∧ Aside0 (Kd.S (Kd.slice 3 (Kd.int .i64)) 24 wc w.heap.size (fun k_ => some k_ ≠ ((.slice Ao114 t335.length co114) : Value).ownBlock ∧ some k_ ≠ ((.slice Ao49 t367.length co49) : Value).ownBlock ∧ some k_ ≠ ((.slice Ao50 t368.length co50) : Value).ownBlock ∧ some k_ ≠ ((.slice Ao51 t369.length co51) : Value).ownBlock ∧ some k_ ≠ ((.slice Ao59 t371.length co59) : Value).ownBlock ∧ some k_ ≠ ((.slice Ao60 t372.length co60) : Value).ownBlock ∧ some k_ ≠ ((.slice Ao61 t373.length co61) : Value).ownBlock) v306 t305) ∧ Aside0 (Kd.S (Kd.slice 3 (Kd.int .i64)) 24 wc w.heap.size (fun k_ => some k_ ≠ (v306 : Value).ownBlock ∧ some k_ ≠ ((.slice Ao49 t367.length co49) : Value).ownBlock ∧ some k_ ≠ ((.slice Ao50 t368.length co50) : Value).ownBlock ∧ some k_ ≠ ((.slice Ao51 t369.length co51) : Value).ownBlock ∧ some k_ ≠ ((.slice Ao59 t371.length co59) : Value).ownBlock ∧ some k_ ≠ ((.slice Ao60 t372.length co60) : Value).ownBlock ∧ some k_ ≠ ((.slice Ao61 t373.length co61) : Value).ownBlock) (.slice Ao114 t335.length co114) t376) ∧ Aside0 (Kd.R (Kd.int .i64) 3 wc w.heap.size (fun k_ => some k_ ≠ ((.slice Ao50 t368.length co50) : Value).ownBlock ∧ some k_ ≠ ((.slice Ao51 t369.length co51) : Value).ownBlock ∧ some k_ ≠ ((.slice Ao59 t371.length co59) : Value).ownBlock ∧ some k_ ≠ ((.slice Ao60 t372.length co60) : Value).ownBlock ∧ some k_ ≠ ((.slice Ao61 t373.length co61) : Value).ownBlock) (.slice Ao49 t367.length co49) t367) ∧ Aside0 (Kd.R (Kd.int .i64) 3 wc w.heap.size (fun k_ => some k_ ≠ ((.slice Ao49 t367.length co49) : Value).ownBlock ∧ some k_ ≠ ((.slice Ao51 t369.length co51) : Value).ownBlock ∧ some k_ ≠ ((.slice Ao59 t371.length co59) : Value).ownBlock ∧ some k_ ≠ ((.slice Ao60 t372.length co60) : Value).ownBlock ∧ some k_ ≠ ((.slice Ao61 t373.length co61) : Value).ownBlock) (.slice Ao50 t368.length co50) t368) ∧ Aside0 (Kd.R (Kd.int .i64) 3 wc w.heap.size (fun k_ => some k_ ≠ ((.slice Ao49 t367.length co49) : Value).ownBlock ∧ some k_ ≠ ((.slice Ao50 t368.length co50) : Value).ownBlock ∧ some k_ ≠ ((.slice Ao59 t371.length co59) : Value).ownBlock ∧ some k_ ≠ ((.slice Ao60 t372.length co60) : Value).ownBlock ∧ some k_ ≠ ((.slice Ao61 t373.length co61) : Value).ownBlock) (.slice Ao51 t369.length co51) t369) ∧ Aside0 (Kd.R (Kd.int .i64) 3 wc w.heap.size (fun k_ => some k_ ≠ ((.slice Ao49 t367.length co49) : Value).ownBlock ∧ some k_ ≠ ((.slice Ao50 t368.length co50) : Value).ownBlock ∧ some k_ ≠ ((.slice Ao51 t369.length co51) : Value).ownBlock ∧ some k_ ≠ ((.slice Ao60 t372.length co60) : Value).ownBlock ∧ some k_ ≠ ((.slice Ao61 t373.length co61) : Value).ownBlock) (.slice Ao59 t371.length co59) t371) ∧ Aside0 (Kd.R (Kd.int .i64) 3 wc w.heap.size (fun k_ => some k_ ≠ ((.slice Ao49 t367.length co49) : Value).ownBlock ∧ some k_ ≠ ((.slice Ao50 t368.length co50) : Value).ownBlock ∧ some k_ ≠ ((.slice Ao51 t369.length co51) : Value).ownBlock ∧ some k_ ≠ ((.slice Ao59 t371.length co59) : Value).ownBlock ∧ some k_ ≠ ((.slice Ao61 t373.length co61) : Value).ownBlock) (.slice Ao60 t372.length co60) t372) ∧ Aside0 (Kd.R (Kd.int .i64) 3 wc w.heap.size (fun k_ => some k_ ≠ ((.slice Ao49 t367.length co49) : Value).ownBlock ∧ some k_ ≠ ((.slice Ao50 t368.length co50) : Value).ownBlock ∧ some k_ ≠ ((.slice Ao51 t369.length co51) : Value).ownBlock ∧ some k_ ≠ ((.slice Ao59 t371.length co59) : Value).ownBlock ∧ some k_ ≠ ((.slice Ao60 t372.length co60) : Value).ownBlock) (.slice Ao61 t373.length co61) t373) ∧ Aside0 (wc.heap[gb277]? = some (.cells #[.int .i64 a0_0, .int .i64 a0_1, .int .i64 a0_2, (.slice A0_3 l0_3.length c0_3), (.slice A0_4 l0_4.length c0_4), (.slice A0_5 l0_5.length c0_5)] 26 (0, 0))) ∧ Aside0 (wc.heap[gb278]? = some (.cells #[.int .i64 a1_0, .int .i64 a1_1, .int .i64 a1_2, (.slice A1_3 l1_3.length c1_3), (.slice A1_4 l1_4.length c1_4), (.slice A1_5 l1_5.length c1_5)] 26 (0, 0))) ∧ Aside0 (wc.heap[gb321]? = some (.cells #[.int .i64 t309, .int .i64 t310, .int .i64 t311, (.slice Ao49 t367.length co49), (.slice Ao50 t368.length co50), (.slice Ao51 t369.length co51)] 41 (0, 0))) ∧ Aside0 (wc.heap[gb334]? = some (.cells #[.int .i64 t322, .int .i64 t323, .int .i64 t324, (.slice Ao59 t371.length co59), (.slice Ao60 t372.length co60), (.slice Ao61 t373.length co61)] 41 (0, 0))) ∧ Aside0 (Below w.heap.size w wc))
             case first =>
              have H := HC113.out
              clear HC113
              by_cases c116 : t377 < 0
              ·rw [if_pos c116] at H
               have c116b0 : decide (t377 < 0) = true := decide_eq_true c116
               clear c116
               (first | rw [c116b0] | (simp only [i64_w, i32_w]; rw [c116b0]) | skip)
               obtain rfl := Option.some.inj H
               go_wp2
               go_ret
               exact ⟨by first | rfl | (simp [errW_none, errW_some] <;> rfl) | (simp [*, errW_none, errW_some] <;> rfl), be4x9 HB.out GE277.out GE278.out GE321.out GE334.out⟩
              ·rw [if_neg c116] at H
               have c116b0 : decide (t377 < 0) = false := decide_eq_false c116
               clear c116
               (first | rw [c116b0] | (simp only [i64_w, i32_w]; rw [c116b0]) | skip)
               have H' := Aside0.mk H
               clear H
               go_wp2
               go_meet
               case rel => exact ⟨_, H', ⟨by have := HJ24.out; have := HJ72.out; have := HJ82.out; have := HJ92.out; first | omega | exact Nat.le_refl _⟩, ⟨by (try simp only [hl322003_92, hl322004_92, hl322005_92, hl335003_92, hl335004_92, hl335005_92]); (with_reducible repeat (first | apply Kd.S_alloc | apply Kd.S_drewN | apply Kd.S_drew)); exact HO_6.out⟩, ⟨by (try simp only [hl322003_92, hl322004_92, hl322005_92, hl335003_92, hl335004_92, hl335005_92]); (with_reducible repeat (first | apply Kd.S_alloc | apply Kd.S_drewN | apply Kd.S_drew)); exact HO_10.out⟩, ⟨by (try simp only [hl322003_92, hl322004_92, hl322005_92, hl335003_92, hl335004_92, hl335005_92]); (with_reducible repeat (first | apply Kd.R_alloc | apply Kd.R_drewN | apply Kd.R_drew)); exact HO_322003.out⟩, ⟨by (try simp only [hl322003_92, hl322004_92, hl322005_92, hl335003_92, hl335004_92, hl335005_92]); (with_reducible repeat (first | apply Kd.R_alloc | apply Kd.R_drewN | apply Kd.R_drew)); exact HO_322004.out⟩, ⟨by (try simp only [hl322003_92, hl322004_92, hl322005_92, hl335003_92, hl335004_92, hl335005_92]); (with_reducible repeat (first | apply Kd.R_alloc | apply Kd.R_drewN | apply Kd.R_drew)); exact HO_322005.out⟩, ⟨by (try simp only [hl322003_92, hl322004_92, hl322005_92, hl335003_92, hl335004_92, hl335005_92]); (with_reducible repeat (first | apply Kd.R_alloc | apply Kd.R_drewN | apply Kd.R_drew)); exact HO_335003.out⟩, ⟨by (try simp only [hl322003_92, hl322004_92, hl322005_92, hl335003_92, hl335004_92, hl335005_92]); (with_reducible repeat (first | apply Kd.R_alloc | apply Kd.R_drewN | apply Kd.R_drew)); exact HO_335004.out⟩, ⟨by (try simp only [hl322003_92, hl322004_92, hl322005_92, hl335003_92, hl335004_92, hl335005_92]); (with_reducible repeat (first | apply Kd.R_alloc | apply Kd.R_drewN | apply Kd.R_drew)); exact HO_335005.out⟩, ⟨by (try simp only [hl322003_92, hl322004_92, hl322005_92, hl335003_92, hl335004_92, hl335005_92]); (with_reducible repeat (first | refine blk_drewN ?_ _ | refine blk_drew ?_ | refine blk_alloc ?_ _)); exact BK277.out⟩, ⟨by (try simp only [hl322003_92, hl322004_92, hl322005_92, hl335003_92, hl335004_92, hl335005_92]); (with_reducible repeat (first | refine blk_drewN ?_ _ | refine blk_drew ?_ | refine blk_alloc ?_ _)); exact BK278.out⟩, ⟨by (try simp only [hl322003_92, hl322004_92, hl322005_92, hl335003_92, hl335004_92, hl335005_92]); (with_reducible repeat (first | refine blk_drewN ?_ _ | refine blk_drew ?_ | refine blk_alloc ?_ _)); exact BK321.out⟩, ⟨by (try simp only [hl322003_92, hl322004_92, hl322005_92, hl335003_92, hl335004_92, hl335005_92]); (with_reducible repeat (first | refine blk_drewN ?_ _ | refine blk_drew ?_ | refine blk_alloc ?_ _)); exact BK334.out⟩, ⟨be4x9 HB.out GE277.out GE278.out GE321.out GE334.out⟩⟩
             case rest =>
              clear HC113
              try clear c110; try clear c116; try clear c116b0
              obtain ⟨kq, HA, HJ112, HO_6, HO_10, HO_322003, HO_322004, HO_322005, HO_335003, HO_335004, HO_335005, BK277, BK278, BK321, BK334, HB⟩ := hcut
              have hl10_112 := (Kd.S_reads' HO_10.out).1
              rw [hl10_112] at HO_10
              (try simp only [hl10_112])
              (try simp only [hl10_112] at BK277)
              (try simp only [hl10_112] at BK278)
              (try simp only [hl10_112] at BK321)
              (try simp only [hl10_112] at BK334)
              (try simp only [hl10_112] at HO_6)
              (try simp only [hl10_112] at HO_322003)
              (try simp only [hl10_112] at HO_322004)
              (try simp only [hl10_112] at HO_322005)
              (try simp only [hl10_112] at HO_335003)
              (try simp only [hl10_112] at HO_335004)
              (try simp only [hl10_112] at HO_335005)
              cases kq with
              | zero => exact absurd HA.out (by simp [laws_FnExactLevelGaps.j4])
              | succ kj112 =>
               have H := HA.out
               clear HA
               simp only [laws_FnExactLevelGaps.j4] at H
               by_cases c117 : t377 = t375
               ·rw [if_pos c117] at H
                have c117b0 : (t377 == t375) = true := beq_iff_eq.mpr c117
                have c117b1 : (t377 != t375) = false := bne_eq_false_iff_eq.mpr c117
                clear c117
                replace H := Option.bind_eq_some_iff.mp H
                obtain ⟨⟨t378, t379, t380, t381, t384, t387⟩, A1180, H⟩ := H
                (try dsimp only at H)
                have A118 := Aside0.mk A1180
                clear A1180
                replace H := Option.bind_eq_some_iff.mp H
                obtain ⟨⟨t390, t391, t392, t393, t396, t399⟩, A1190, H⟩ := H
                (try dsimp only at H)
                have A119 := Aside0.mk A1190
                clear A1190
                replace H := Option.bind_eq_some_iff.mp H
                obtain ⟨⟨t402, t405⟩, A1200, H⟩ := H
                (try dsimp only at H)
                have A120 := Aside0.mk A1200
                clear A1200
                have HC121 := Aside0.mk H
                clear H
                try go_wp2
                replace HO_6 := Aside0.mk (Kd.S_drew HO_6.out)
                replace HO_10 := Aside0.mk (Kd.S_drew HO_10.out)
                replace HO_322003 := Aside0.mk (Kd.R_drew HO_322003.out)
                replace HO_322004 := Aside0.mk (Kd.R_drew HO_322004.out)
                replace HO_322005 := Aside0.mk (Kd.R_drew HO_322005.out)
                replace HO_335003 := Aside0.mk (Kd.R_drew HO_335003.out)
                replace HO_335004 := Aside0.mk (Kd.R_drew HO_335004.out)
                replace HO_335005 := Aside0.mk (Kd.R_drew HO_335005.out)
                replace BK277 := Aside0.mk (blk_drew BK277.out)
                replace BK278 := Aside0.mk (blk_drew BK278.out)
                replace BK321 := Aside0.mk (blk_drew BK321.out)
                replace BK334 := Aside0.mk (blk_drew BK334.out)
                replace HB := Aside0.mk (below_drew1 HB.out)
                refine start_ (n := 10) (S := fun w' => w'.cell? ⟨gb277, 0, none⟩ = some (.int .i64 a0_0) ∧ w'.cell? ⟨gb277, 1, none⟩ = some (.int .i64 a0_1) ∧ w'.cell? ⟨gb277, 2, none⟩ = some (.int .i64 a0_2) ∧ w'.cell? ⟨gb277, 3, none⟩ = some (.slice A0_3 l0_3.length c0_3) ∧ w'.cell? ⟨gb277, 4, none⟩ = some (.slice A0_4 l0_4.length c0_4) ∧ w'.cell? ⟨gb277, 5, none⟩ = some (.slice A0_5 l0_5.length c0_5) ∧ w'.cell? ⟨gb278, 0, none⟩ = some (.int .i64 a1_0) ∧ w'.cell? ⟨gb278, 1, none⟩ = some (.int .i64 a1_1) ∧ w'.cell? ⟨gb278, 2, none⟩ = some (.int .i64 a1_2) ∧ w'.cell? ⟨gb278, 3, none⟩ = some (.slice A1_3 l1_3.length c1_3) ∧ w'.cell? ⟨gb278, 4, none⟩ = some (.slice A1_4 l1_4.length c1_4) ∧ w'.cell? ⟨gb278, 5, none⟩ = some (.slice A1_5 l1_5.length c1_5)) (ds := []) #[false, false, false, false, false, false, false, false, false, false] (by kernel_rfl) rfl rfl (ca6x9 BK277.out (cc6x9 BK278.out)) (fun hHeld => ?_); refine with_tabW laws_FnExactLevelGaps.tab31 laws_FnExactLevelGaps.bits31 (fun HT_ HW_ => ?_)
                generalize wc.drew = w122 at HO_6 HO_10 HO_322003 HO_322004 HO_322005 HO_335003 HO_335004 HO_335005 BK277 BK278 BK321 BK334 HB hHeld ⊢
                refine take_ (i := 0) (N := some 95) (v := ?_) (a' := ?_) #[true, false, false, false, false, false, false, false, false, false] rfl rfl (take_ofW HT_.out HW_.out (by kernel_rfl)) (fun _ _ _ h => h) (Or.inl ⟨by rfl, ?_⟩) hHeld ?_ ?_
                rotate_left
                ·rintro w' ⟨s0, s1, s2, s3, s4, s5, s6, s7, s8, s9, s10, s11⟩
                 go_simp
                 with_reducible rfl
                rotate_left
                ·simp only [Act.put, List.setIfInBounds_toArray, List.set_cons_zero, List.set_cons_succ, i64_w, i32_w]
                 rfl
                refine take_ (i := 2) (N := some 97) (v := ?_) (a' := ?_) #[true, false, true, false, false, false, false, false, false, false] rfl rfl (take_ofW HT_.out HW_.out (by kernel_rfl)) (fun _ _ _ h => h) (Or.inl ⟨by rfl, ?_⟩) hHeld ?_ ?_
                rotate_left
                ·rintro w' ⟨s0, s1, s2, s3, s4, s5, s6, s7, s8, s9, s10, s11⟩
                 go_simp
                 with_reducible rfl
                rotate_left
                ·simp only [Act.put, List.setIfInBounds_toArray, List.set_cons_zero, List.set_cons_succ, i64_w, i32_w]
                 rfl
                refine one_ (i := 1) (N := some 96) #[true, true, true, false, false, false, false, false, false, false] rfl rfl (one_of HT_.out (by kernel_rfl)) (by decide) (fun K hK => ?_)
                refine goes_ Try.func19 (by kernel_rfl) rfl #[.agg #[.int .i64 a0_0, .int .i64 a0_1, .int .i64 a0_2, .slice A0_3 l0_3.length c0_3, .slice A0_4 l0_4.length c0_4, .slice A0_5 l0_5.length c0_5]] (by rfl) rfl rfl mpx9 ?_
                with_reducible refine (laws_toModel.calls kj112 a0_0 a0_1 a0_2 _ _ l0_3 _ _ l0_4 _ _ l0_5 t378 t379 t380 t381 t384 t387 _ ?side1 ?side2 ?side3 ?side4 ?side5 ?side6 A118.out).mono ?_
                (case side1 => exact rCx9 (Kd.C_below HR0_3.out HB.out))
                (case side2 => exact HC0_3.out)
                (case side3 => exact rCx9 (Kd.C_below HR0_4.out HB.out))
                (case side4 => exact HC0_4.out)
                (case side5 => exact rCx9 (Kd.C_below HR0_5.out HB.out))
                (case side6 => exact HC0_5.out)
                rintro e w123 ⟨v382, v385, v388, rfl, ho0, ho1, ho2, hb⟩
                refine ⟨_, rfl, ?_⟩
                replace HO_6 := Aside0.mk (Kd.S_mono (Kd.S_told (Kd.S_told (Kd.S_told (Kd.S_old (rSx9 HO_6.out) hb) (Kd.R_base ho0)) (Kd.R_base ho1)) (Kd.R_base ho2)) (fun _ h_ => h_.1))
                replace HO_10 := Aside0.mk (Kd.S_mono (Kd.S_told (Kd.S_told (Kd.S_told (Kd.S_old (rSx9 HO_10.out) hb) (Kd.R_base ho0)) (Kd.R_base ho1)) (Kd.R_base ho2)) (fun _ h_ => h_.1))
                have HO383 := Aside0.mk (Kd.R_lower (nwx9 (nwx9 (nwx9 (nwx9 (nwx9 (nwx9 ho0 (rRx9 HO_322003.out)) (rRx9 HO_322004.out)) (rRx9 HO_322005.out)) (rRx9 HO_335003.out)) (rRx9 HO_335004.out)) (rRx9 HO_335005.out)) (below_size (be4x9 HB.out GE277.out GE278.out GE321.out GE334.out)))
                have HO386 := Aside0.mk (Kd.R_lower (nwx9 (nwx9 (nwx9 (nwx9 (nwx9 (nwx9 ho1 (rRx9 HO_322003.out)) (rRx9 HO_322004.out)) (rRx9 HO_322005.out)) (rRx9 HO_335003.out)) (rRx9 HO_335004.out)) (rRx9 HO_335005.out)) (below_size (be4x9 HB.out GE277.out GE278.out GE321.out GE334.out)))
                have HO389 := Aside0.mk (Kd.R_lower (nwx9 (nwx9 (nwx9 (nwx9 (nwx9 (nwx9 ho2 (rRx9 HO_322003.out)) (rRx9 HO_322004.out)) (rRx9 HO_322005.out)) (rRx9 HO_335003.out)) (rRx9 HO_335004.out)) (rRx9 HO_335005.out)) (below_size (be4x9 HB.out GE277.out GE278.out GE321.out GE334.out)))
                replace HO_322003 := Aside0.mk (kp3x9 (rRx9 HO_322003.out) hb ho0 ho1 ho2)
                replace HO_322004 := Aside0.mk (kp3x9 (rRx9 HO_322004.out) hb ho0 ho1 ho2)
                replace HO_322005 := Aside0.mk (kp3x9 (rRx9 HO_322005.out) hb ho0 ho1 ho2)
                replace HO_335003 := Aside0.mk (kp3x9 (rRx9 HO_335003.out) hb ho0 ho1 ho2)
                replace HO_335004 := Aside0.mk (kp3x9 (rRx9 HO_335004.out) hb ho0 ho1 ho2)
                replace HO_335005 := Aside0.mk (kp3x9 (rRx9 HO_335005.out) hb ho0 ho1 ho2)
                replace BK277 := Aside0.mk (blk_below (rBx9 BK277.out) hb)
                replace BK278 := Aside0.mk (blk_below (rBx9 BK278.out) hb)
                replace BK321 := Aside0.mk (blk_below (rBx9 BK321.out) hb)
                replace BK334 := Aside0.mk (blk_below (rBx9 BK334.out) hb)
                replace HB := Aside0.mk (below_step (be4x9 HB.out GE277.out GE278.out GE321.out GE334.out) hb)
                (try clear hb)
                (try clear hb2)
                (try clear hk)
                (try clear hi)
                (try clear ho0)
                (try clear ho1)
                (try clear ho2)
                refine hK.out _ _ (ca6x9 BK277.out (cc6x9 BK278.out)) (fun hHeld => ?_)
                clear hK K
                refine norm_ (a' := ?_) ?_ ?_
                rotate_left
                ·show Act.put _ (some 96) _ = _
                 simp only [Act.put, List.setIfInBounds_toArray, List.set_cons_zero, List.set_cons_succ, i64_w, i32_w]
                 rfl
                refine one_ (i := 3) (N := some 98) #[true, true, true, true, false, false, false, false, false, false] rfl rfl (one_of HT_.out (by kernel_rfl)) (by decide) (fun K hK => ?_)
                refine goes_ Try.func19 (by kernel_rfl) rfl #[.agg #[.int .i64 a1_0, .int .i64 a1_1, .int .i64 a1_2, .slice A1_3 l1_3.length c1_3, .slice A1_4 l1_4.length c1_4, .slice A1_5 l1_5.length c1_5]] (by rfl) rfl rfl mpx9 ?_
                with_reducible refine (laws_toModel.calls kj112 a1_0 a1_1 a1_2 _ _ l1_3 _ _ l1_4 _ _ l1_5 t390 t391 t392 t393 t396 t399 _ ?side1 ?side2 ?side3 ?side4 ?side5 ?side6 A119.out).mono ?_
                (case side1 => exact rCx9 (Kd.C_below HR1_3.out HB.out))
                (case side2 => exact HC1_3.out)
                (case side3 => exact rCx9 (Kd.C_below HR1_4.out HB.out))
                (case side4 => exact HC1_4.out)
                (case side5 => exact rCx9 (Kd.C_below HR1_5.out HB.out))
                (case side6 => exact HC1_5.out)
                rintro e w124 ⟨v394, v397, v400, rfl, ho0, ho1, ho2, hb⟩
                refine ⟨_, rfl, ?_⟩
                replace HO_6 := Aside0.mk (Kd.S_mono (Kd.S_told (Kd.S_told (Kd.S_told (Kd.S_old (rSx9 HO_6.out) hb) (Kd.R_base ho0)) (Kd.R_base ho1)) (Kd.R_base ho2)) (fun _ h_ => h_.1))
                replace HO_10 := Aside0.mk (Kd.S_mono (Kd.S_told (Kd.S_told (Kd.S_told (Kd.S_old (rSx9 HO_10.out) hb) (Kd.R_base ho0)) (Kd.R_base ho1)) (Kd.R_base ho2)) (fun _ h_ => h_.1))
                have HO395 := Aside0.mk (Kd.R_lower (nwx9 (nwx9 (nwx9 (nwx9 (nwx9 (nwx9 (nwx9 (nwx9 (nwx9 ho0 (rRx9 HO_322003.out)) (rRx9 HO_322004.out)) (rRx9 HO_322005.out)) (rRx9 HO_335003.out)) (rRx9 HO_335004.out)) (rRx9 HO_335005.out)) (rRx9 HO383.out)) (rRx9 HO386.out)) (rRx9 HO389.out)) (below_size (be4x9 HB.out GE277.out GE278.out GE321.out GE334.out)))
                have HO398 := Aside0.mk (Kd.R_lower (nwx9 (nwx9 (nwx9 (nwx9 (nwx9 (nwx9 (nwx9 (nwx9 (nwx9 ho1 (rRx9 HO_322003.out)) (rRx9 HO_322004.out)) (rRx9 HO_322005.out)) (rRx9 HO_335003.out)) (rRx9 HO_335004.out)) (rRx9 HO_335005.out)) (rRx9 HO383.out)) (rRx9 HO386.out)) (rRx9 HO389.out)) (below_size (be4x9 HB.out GE277.out GE278.out GE321.out GE334.out)))
                have HO401 := Aside0.mk (Kd.R_lower (nwx9 (nwx9 (nwx9 (nwx9 (nwx9 (nwx9 (nwx9 (nwx9 (nwx9 ho2 (rRx9 HO_322003.out)) (rRx9 HO_322004.out)) (rRx9 HO_322005.out)) (rRx9 HO_335003.out)) (rRx9 HO_335004.out)) (rRx9 HO_335005.out)) (rRx9 HO383.out)) (rRx9 HO386.out)) (rRx9 HO389.out)) (below_size (be4x9 HB.out GE277.out GE278.out GE321.out GE334.out)))
                replace HO_322003 := Aside0.mk (kp3x9 (rRx9 HO_322003.out) hb ho0 ho1 ho2)
                replace HO_322004 := Aside0.mk (kp3x9 (rRx9 HO_322004.out) hb ho0 ho1 ho2)
                replace HO_322005 := Aside0.mk (kp3x9 (rRx9 HO_322005.out) hb ho0 ho1 ho2)
                replace HO_335003 := Aside0.mk (kp3x9 (rRx9 HO_335003.out) hb ho0 ho1 ho2)
                replace HO_335004 := Aside0.mk (kp3x9 (rRx9 HO_335004.out) hb ho0 ho1 ho2)
                replace HO_335005 := Aside0.mk (kp3x9 (rRx9 HO_335005.out) hb ho0 ho1 ho2)
                replace HO383 := Aside0.mk (kp3x9 (rRx9 HO383.out) hb ho0 ho1 ho2)
                replace HO386 := Aside0.mk (kp3x9 (rRx9 HO386.out) hb ho0 ho1 ho2)
                replace HO389 := Aside0.mk (kp3x9 (rRx9 HO389.out) hb ho0 ho1 ho2)
                replace BK277 := Aside0.mk (blk_below (rBx9 BK277.out) hb)
                replace BK278 := Aside0.mk (blk_below (rBx9 BK278.out) hb)
                replace BK321 := Aside0.mk (blk_below (rBx9 BK321.out) hb)
                replace BK334 := Aside0.mk (blk_below (rBx9 BK334.out) hb)
                replace HB := Aside0.mk (below_step (be4x9 HB.out GE277.out GE278.out GE321.out GE334.out) hb)
                (try clear hb)
                (try clear hb2)
                (try clear hk)
                (try clear hi)
                (try clear ho0)
                (try clear ho1)
                (try clear ho2)
                obtain ⟨Ao125, co125, eo125⟩ := Kd.R_slice HO383.out
                (first | subst eo125 | (injection eo125 with f1_ f2_ f3_; have f4_ := f1_.symm; have f5_ := f3_.symm; clear f1_ f2_ f3_; subst f4_; subst f5_))
                obtain ⟨Ao126, co126, eo126⟩ := Kd.R_slice HO386.out
                (first | subst eo126 | (injection eo126 with f1_ f2_ f3_; have f4_ := f1_.symm; have f5_ := f3_.symm; clear f1_ f2_ f3_; subst f4_; subst f5_))
                obtain ⟨Ao127, co127, eo127⟩ := Kd.R_slice HO389.out
                (first | subst eo127 | (injection eo127 with f1_ f2_ f3_; have f4_ := f1_.symm; have f5_ := f3_.symm; clear f1_ f2_ f3_; subst f4_; subst f5_))
                obtain ⟨Ao128, co128, eo128⟩ := Kd.R_slice HO395.out
                (first | subst eo128 | (injection eo128 with f1_ f2_ f3_; have f4_ := f1_.symm; have f5_ := f3_.symm; clear f1_ f2_ f3_; subst f4_; subst f5_))
                obtain ⟨Ao129, co129, eo129⟩ := Kd.R_slice HO398.out
                (first | subst eo129 | (injection eo129 with f1_ f2_ f3_; have f4_ := f1_.symm; have f5_ := f3_.symm; clear f1_ f2_ f3_; subst f4_; subst f5_))
                obtain ⟨Ao130, co130, eo130⟩ := Kd.R_slice HO401.out
                (first | subst eo130 | (injection eo130 with f1_ f2_ f3_; have f4_ := f1_.symm; have f5_ := f3_.symm; clear f1_ f2_ f3_; subst f4_; subst f5_))
                refine hK.out _ _ (ca6x9 BK277.out (cc6x9 BK278.out)) (fun hHeld => ?_)
                clear hK K
                refine norm_ (a' := ?_) ?_ ?_
                rotate_left
                ·show Act.put _ (some 98) _ = _
                 simp only [Act.put, List.setIfInBounds_toArray, List.set_cons_zero, List.set_cons_succ, i64_w, i32_w]
                 rfl
                refine one_ (i := 4) (N := some 99) #[true, true, true, true, true, false, false, false, false, false] rfl rfl (one_of HT_.out (by kernel_rfl)) (by decide) (fun K hK => ?_)
                refine goes_ Try.func51 (by kernel_rfl) rfl #[.agg #[.int .i64 t378, .int .i64 t379, .int .i64 t380, .slice Ao125 t381.length co125, .slice Ao126 t384.length co126, .slice Ao127 t387.length co127], .agg #[.int .i64 t390, .int .i64 t391, .int .i64 t392, .slice Ao128 t393.length co128, .slice Ao129 t396.length co129, .slice Ao130 t399.length co130]] (by rfl) rfl rfl mpx9 ?_
                with_reducible refine (impl_LevelGaps.calls kj112 t378 t379 t380 _ _ t381 _ _ t384 _ _ t387 t390 t391 t392 _ _ t393 _ _ t396 _ _ t399 t402 t405 _ ?side1 ?side2 ?side3 ?side4 ?side5 ?side6 ?side7 ?side8 ?side9 ?side10 ?side11 ?side12 A120.out).mono ?_
                (case side1 => exact cRx9 HO383.out)
                (case side2 => exact (Kd.R_reads' HO383.out).2.1)
                (case side3 => exact cRx9 HO386.out)
                (case side4 => exact (Kd.R_reads' HO386.out).2.1)
                (case side5 => exact cRx9 HO389.out)
                (case side6 => exact (Kd.R_reads' HO389.out).2.1)
                (case side7 => exact cRx9 HO395.out)
                (case side8 => exact (Kd.R_reads' HO395.out).2.1)
                (case side9 => exact cRx9 HO398.out)
                (case side10 => exact (Kd.R_reads' HO398.out).2.1)
                (case side11 => exact cRx9 HO401.out)
                (case side12 => exact (Kd.R_reads' HO401.out).2.1)
                rintro e w131 ⟨v403, rfl, ho0, hb⟩
                refine ⟨_, rfl, ?_⟩
                have HO404 := Aside0.mk (Kd.S_lower (Kd.S_new' (Kd.S_new' (Kd.S_new' (Kd.S_new' (Kd.S_new' (Kd.S_new' (Kd.S_new' (Kd.S_new' (Kd.S_new' (Kd.S_new' (Kd.S_new' (Kd.S_new' (Kd.S_new' (Kd.S_new' ho0 (Kd.S_lt (rSx9 HO_6.out))) (Kd.S_lt (rSx9 HO_10.out))) (Kd.R_lt (rRx9 HO_322003.out))) (Kd.R_lt (rRx9 HO_322004.out))) (Kd.R_lt (rRx9 HO_322005.out))) (Kd.R_lt (rRx9 HO_335003.out))) (Kd.R_lt (rRx9 HO_335004.out))) (Kd.R_lt (rRx9 HO_335005.out))) (Kd.R_lt (rRx9 HO383.out))) (Kd.R_lt (rRx9 HO386.out))) (Kd.R_lt (rRx9 HO389.out))) (Kd.R_lt (rRx9 HO395.out))) (Kd.R_lt (rRx9 HO398.out))) (Kd.R_lt (rRx9 HO401.out))) (below_size (be4x9 HB.out GE277.out GE278.out GE321.out GE334.out)))
                replace HO_6 := Aside0.mk (Kd.S_elder' (rSx9 HO_6.out) (Kd.S_base ho0) hb)
                replace HO_10 := Aside0.mk (Kd.S_elder' (rSx9 HO_10.out) (Kd.S_base ho0) hb)
                replace HO_322003 := Aside0.mk (Kd.R_below (rRx9 HO_322003.out) hb)
                replace HO_322004 := Aside0.mk (Kd.R_below (rRx9 HO_322004.out) hb)
                replace HO_322005 := Aside0.mk (Kd.R_below (rRx9 HO_322005.out) hb)
                replace HO_335003 := Aside0.mk (Kd.R_below (rRx9 HO_335003.out) hb)
                replace HO_335004 := Aside0.mk (Kd.R_below (rRx9 HO_335004.out) hb)
                replace HO_335005 := Aside0.mk (Kd.R_below (rRx9 HO_335005.out) hb)
                replace HO383 := Aside0.mk (Kd.R_below (rRx9 HO383.out) hb)
                replace HO386 := Aside0.mk (Kd.R_below (rRx9 HO386.out) hb)
                replace HO389 := Aside0.mk (Kd.R_below (rRx9 HO389.out) hb)
                replace HO395 := Aside0.mk (Kd.R_below (rRx9 HO395.out) hb)
                replace HO398 := Aside0.mk (Kd.R_below (rRx9 HO398.out) hb)
                replace HO401 := Aside0.mk (Kd.R_below (rRx9 HO401.out) hb)
                replace BK277 := Aside0.mk (blk_below (rBx9 BK277.out) hb)
                replace BK278 := Aside0.mk (blk_below (rBx9 BK278.out) hb)
                replace BK321 := Aside0.mk (blk_below (rBx9 BK321.out) hb)
                replace BK334 := Aside0.mk (blk_below (rBx9 BK334.out) hb)
                replace HB := Aside0.mk (below_step (be4x9 HB.out GE277.out GE278.out GE321.out GE334.out) hb)
                (try clear hb)
                (try clear hb2)
                (try clear hk)
                (try clear hi)
                (try clear ho0)
                refine hK.out _ _ (ca6x9 BK277.out (cc6x9 BK278.out)) (fun hHeld => ?_)
                clear hK K
                refine norm_ (a' := ?_) ?_ ?_
                rotate_left
                ·show Act.put _ (some 99) _ = _
                 simp only [Act.put, List.setIfInBounds_toArray, List.set_cons_zero, List.set_cons_succ, i64_w, i32_w]
                 rfl
                refine pure_ (i := 5) (N := some 94) (v := ?_) (a' := ?_) #[true, true, true, true, true, true, false, false, false, false] rfl rfl (any_of HT_.out (by kernel_rfl)) (fun _ _ _ h => h) (Or.inl ⟨by rfl, ?_⟩) ?_ ?_
                rotate_left
                ·intro w'
                 go_simp
                 with_reducible rfl
                rotate_left
                ·simp only [Act.put, List.setIfInBounds_toArray, List.set_cons_zero, List.set_cons_succ, i64_w, i32_w]
                 rfl
                refine pure_ (i := 6) (N := some 100) (v := ?_) (a' := ?_) #[true, true, true, true, true, true, true, false, false, false] rfl rfl (any_of HT_.out (by kernel_rfl)) (fun _ _ _ h => h) (Or.inl ⟨by rfl, ?_⟩) ?_ ?_
                rotate_left
                ·intro w'
                 go_simp
                 with_reducible rfl
                rotate_left
                ·simp only [Act.put, List.setIfInBounds_toArray, List.set_cons_zero, List.set_cons_succ, i64_w, i32_w]
                 rfl
                refine pure_ (i := 7) (N := some 101) (v := ?_) (a' := ?_) #[true, true, true, true, true, true, true, true, false, false] rfl rfl (any_of HT_.out (by kernel_rfl)) (fun _ _ _ h => h) (Or.inl ⟨by rfl, ?_⟩) ?_ ?_
                rotate_left
                ·intro w'
                 go_simp
                 with_reducible rfl
                rotate_left
                ·simp only [Act.put, List.setIfInBounds_toArray, List.set_cons_zero, List.set_cons_succ, i64_w, i32_w]
                 rfl
                refine pure_ (i := 8) (N := some 15) (v := ?_) (a' := ?_) #[true, true, true, true, true, true, true, true, true, false] rfl rfl (any_of HT_.out (by kernel_rfl)) (fun _ _ _ h => h) (Or.inl ⟨by rfl, ?_⟩) ?_ ?_
                rotate_left
                ·intro w'
                 go_simp
                 with_reducible rfl
                rotate_left
                ·simp only [Act.put, List.setIfInBounds_toArray, List.set_cons_zero, List.set_cons_succ, i64_w, i32_w]
                 rfl
                refine pure_ (i := 9) (N := some 16) (v := ?_) (a' := ?_) #[true, true, true, true, true, true, true, true, true, true] rfl rfl (any_of HT_.out (by kernel_rfl)) (fun _ _ _ h => h) (Or.inl ⟨by rfl, ?_⟩) ?_ ?_
                rotate_left
                ·intro w'
                 go_simp
                 with_reducible rfl
                rotate_left
                ·simp only [Act.put, List.setIfInBounds_toArray, List.set_cons_zero, List.set_cons_succ, i64_w, i32_w]
                 rfl
                refine done_ (done_of HT_.out (by kernel_rfl)) ?_
                go_upto_region 32 with (fail)
                go_cut [110] (fun v110 wc => ∃ (kq : Nat) (x110_120 : Bool), v110 = .bool x110_120 ∧ Aside0 (laws_FnExactLevelGaps.j5 kq t376 t375 x110_120 = some r) ∧ Aside0 (kq ≤ kj112) ∧ Aside0 (Kd.S (Kd.slice 3 (Kd.int .i64)) 24 wc w.heap.size (fun k_ => some k_ ≠ ((.slice Ao49 t367.length co49) : Value).ownBlock ∧ some k_ ≠ ((.slice Ao50 t368.length co50) : Value).ownBlock ∧ some k_ ≠ ((.slice Ao51 t369.length co51) : Value).ownBlock ∧ some k_ ≠ ((.slice Ao59 t371.length co59) : Value).ownBlock ∧ some k_ ≠ ((.slice Ao60 t372.length co60) : Value).ownBlock ∧ some k_ ≠ ((.slice Ao61 t373.length co61) : Value).ownBlock) (.slice Ao114 t376.length co114) t376) ∧ Aside0 (Kd.R (Kd.int .i64) 3 wc w.heap.size (fun k_ => some k_ ≠ ((.slice Ao50 t368.length co50) : Value).ownBlock ∧ some k_ ≠ ((.slice Ao51 t369.length co51) : Value).ownBlock ∧ some k_ ≠ ((.slice Ao59 t371.length co59) : Value).ownBlock ∧ some k_ ≠ ((.slice Ao60 t372.length co60) : Value).ownBlock ∧ some k_ ≠ ((.slice Ao61 t373.length co61) : Value).ownBlock) (.slice Ao49 t367.length co49) t367) ∧ Aside0 (Kd.R (Kd.int .i64) 3 wc w.heap.size (fun k_ => some k_ ≠ ((.slice Ao49 t367.length co49) : Value).ownBlock ∧ some k_ ≠ ((.slice Ao51 t369.length co51) : Value).ownBlock ∧ some k_ ≠ ((.slice Ao59 t371.length co59) : Value).ownBlock ∧ some k_ ≠ ((.slice Ao60 t372.length co60) : Value).ownBlock ∧ some k_ ≠ ((.slice Ao61 t373.length co61) : Value).ownBlock) (.slice Ao50 t368.length co50) t368) ∧ Aside0 (Kd.R (Kd.int .i64) 3 wc w.heap.size (fun k_ => some k_ ≠ ((.slice Ao49 t367.length co49) : Value).ownBlock ∧ some k_ ≠ ((.slice Ao50 t368.length co50) : Value).ownBlock ∧ some k_ ≠ ((.slice Ao59 t371.length co59) : Value).ownBlock ∧ some k_ ≠ ((.slice Ao60 t372.length co60) : Value).ownBlock ∧ some k_ ≠ ((.slice Ao61 t373.length co61) : Value).ownBlock) (.slice Ao51 t369.length co51) t369) ∧ Aside0 (Kd.R (Kd.int .i64) 3 wc w.heap.size (fun k_ => some k_ ≠ ((.slice Ao49 t367.length co49) : Value).ownBlock ∧ some k_ ≠ ((.slice Ao50 t368.length co50) : Value).ownBlock ∧ some k_ ≠ ((.slice Ao51 t369.length co51) : Value).ownBlock ∧ some k_ ≠ ((.slice Ao60 t372.length co60) : Value).ownBlock ∧ some k_ ≠ ((.slice Ao61 t373.length co61) : Value).ownBlock) (.slice Ao59 t371.length co59) t371) ∧ Aside0 (Kd.R (Kd.int .i64) 3 wc w.heap.size (fun k_ => some k_ ≠ ((.slice Ao49 t367.length co49) : Value).ownBlock ∧ some k_ ≠ ((.slice Ao50 t368.length co50) : Value).ownBlock ∧ some k_ ≠ ((.slice Ao51 t369.length co51) : Value).ownBlock ∧ some k_ ≠ ((.slice Ao59 t371.length co59) : Value).ownBlock ∧ some k_ ≠ ((.slice Ao61 t373.length co61) : Value).ownBlock) (.slice Ao60 t372.length co60) t372) ∧ Aside0 (Kd.R (Kd.int .i64) 3 wc w.heap.size (fun k_ => some k_ ≠ ((.slice Ao49 t367.length co49) : Value).ownBlock ∧ some k_ ≠ ((.slice Ao50 t368.length co50) : Value).ownBlock ∧ some k_ ≠ ((.slice Ao51 t369.length co51) : Value).ownBlock ∧ some k_ ≠ ((.slice Ao59 t371.length co59) : Value).ownBlock ∧ some k_ ≠ ((.slice Ao60 t372.length co60) : Value).ownBlock) (.slice Ao61 t373.length co61) t373) ∧ Aside0 (wc.heap[gb277]? = some (.cells #[.int .i64 a0_0, .int .i64 a0_1, .int .i64 a0_2, (.slice A0_3 l0_3.length c0_3), (.slice A0_4 l0_4.length c0_4), (.slice A0_5 l0_5.length c0_5)] 26 (0, 0))) ∧ Aside0 (wc.heap[gb278]? = some (.cells #[.int .i64 a1_0, .int .i64 a1_1, .int .i64 a1_2, (.slice A1_3 l1_3.length c1_3), (.slice A1_4 l1_4.length c1_4), (.slice A1_5 l1_5.length c1_5)] 26 (0, 0))) ∧ Aside0 (wc.heap[gb321]? = some (.cells #[.int .i64 t309, .int .i64 t310, .int .i64 t311, (.slice Ao49 t367.length co49), (.slice Ao50 t368.length co50), (.slice Ao51 t369.length co51)] 41 (0, 0))) ∧ Aside0 (wc.heap[gb334]? = some (.cells #[.int .i64 t322, .int .i64 t323, .int .i64 t324, (.slice Ao59 t371.length co59), (.slice Ao60 t372.length co60), (.slice Ao61 t373.length co61)] 41 (0, 0))) ∧ Aside0 (Below w.heap.size w wc))
                case first =>
                 have H := HC121.out
                 clear HC121
                 replace H := Option.bind_eq_some_iff.mp H
                 obtain ⟨t406, A1320, H⟩ := H
                 have A132 := Aside0.mk A1320
                 clear A1320
                 by_cases c133 : t406 = true
                 ·subst c133
                  have H1 : (laws_FnExactLevelGaps.j5 kj112 t376 t375 (t405 != t308)) = some r := by rw [if_pos rfl] at H; exact H
                  clear H
                  have H := H1
                  clear H1
                  have H' := Aside0.mk H
                  clear H
                  obtain ⟨Ao134, co134, eo134⟩ := Kd.S_slice HO404.out
                  subst eo134
                  obtain ⟨Ao135, co135, eo135⟩ := Kd.S_slice HO_6.out
                  subst eo135
                  go_wp2_with (first | ((with_reducible refine gate_callee (f := 36) rfl ?_); refine goesL_ (some 104) rfl rfl Try.func36 (by kernel_rfl) rfl #[.slice Ao134 t402.length co134, .slice Ao135 t305.length co135] rfl mpx9 ?_; (with_reducible refine (laws_eqIntSS.calls kj112 _ _ t402 _ _ t305 true _ ?side1 ?side2 ?side3 ?side4 A132.out).mono ?_); (case side1 => repeat (first | exact (Kd.S_reads' HO404.out).2.2 | (with_reducible refine Kd.C_alloc ?_ _) | (with_reducible refine Kd.C_drewN ?_ _) | (with_reducible refine Kd.C_drew ?_))); (case side2 => exact (Kd.S_reads' HO404.out).2.1); (case side3 => repeat (first | exact (Kd.S_reads' HO_6.out).2.2 | (with_reducible refine Kd.C_alloc ?_ _) | (with_reducible refine Kd.C_drewN ?_ _) | (with_reducible refine Kd.C_drew ?_))); (case side4 => exact (Kd.S_reads' HO_6.out).2.1); rintro e w' ⟨rfl, ⟨nd, rfl⟩⟩; refine ⟨_, rfl, ?_⟩))
                  go_meet
                  case rel => exact ⟨_, ((t405 != t308)), (by first | rfl | (simp; done) | (simp [*]; done)), H', ⟨by have := HJ24.out; have := HJ72.out; have := HJ82.out; have := HJ92.out; have := HJ112.out; first | omega | exact Nat.le_refl _⟩, ⟨by (try simp only [hl322003_92, hl322004_92, hl322005_92, hl335003_92, hl335004_92, hl335005_92, hl10_112]); (with_reducible repeat (first | apply Kd.S_alloc | apply Kd.S_drewN | apply Kd.S_drew)); exact Kd.S_mono HO_10.out (fun _ hk => ⟨hk.1.1.1.1.1.1.1.2.1, ⟨hk.1.1.1.1.1.1.1.2.2.1, ⟨hk.1.1.1.1.1.1.1.2.2.2.1, ⟨hk.1.1.1.1.1.1.1.2.2.2.2.1, ⟨hk.1.1.1.1.1.1.1.2.2.2.2.2.1, hk.1.1.1.1.1.1.1.2.2.2.2.2.2⟩⟩⟩⟩⟩)⟩, ⟨by (try simp only [hl322003_92, hl322004_92, hl322005_92, hl335003_92, hl335004_92, hl335005_92, hl10_112]); exact rRx9 (mox9 HO_322003.out)⟩, ⟨by (try simp only [hl322003_92, hl322004_92, hl322005_92, hl335003_92, hl335004_92, hl335005_92, hl10_112]); exact rRx9 (mox9 HO_322004.out)⟩, ⟨by (try simp only [hl322003_92, hl322004_92, hl322005_92, hl335003_92, hl335004_92, hl335005_92, hl10_112]); exact rRx9 (mox9 HO_322005.out)⟩, ⟨by (try simp only [hl322003_92, hl322004_92, hl322005_92, hl335003_92, hl335004_92, hl335005_92, hl10_112]); exact rRx9 (mox9 HO_335003.out)⟩, ⟨by (try simp only [hl322003_92, hl322004_92, hl322005_92, hl335003_92, hl335004_92, hl335005_92, hl10_112]); exact rRx9 (mox9 HO_335004.out)⟩, ⟨by (try simp only [hl322003_92, hl322004_92, hl322005_92, hl335003_92, hl335004_92, hl335005_92, hl10_112]); exact rRx9 (mox9 HO_335005.out)⟩, ⟨by (try simp only [hl322003_92, hl322004_92, hl322005_92, hl335003_92, hl335004_92, hl335005_92, hl10_112]); (with_reducible repeat (first | refine blk_drewN ?_ _ | refine blk_drew ?_ | refine blk_alloc ?_ _)); exact BK277.out⟩, ⟨by (try simp only [hl322003_92, hl322004_92, hl322005_92, hl335003_92, hl335004_92, hl335005_92, hl10_112]); (with_reducible repeat (first | refine blk_drewN ?_ _ | refine blk_drew ?_ | refine blk_alloc ?_ _)); exact BK278.out⟩, ⟨by (try simp only [hl322003_92, hl322004_92, hl322005_92, hl335003_92, hl335004_92, hl335005_92, hl10_112]); (with_reducible repeat (first | refine blk_drewN ?_ _ | refine blk_drew ?_ | refine blk_alloc ?_ _)); exact BK321.out⟩, ⟨by (try simp only [hl322003_92, hl322004_92, hl322005_92, hl335003_92, hl335004_92, hl335005_92, hl10_112]); (with_reducible repeat (first | refine blk_drewN ?_ _ | refine blk_drew ?_ | refine blk_alloc ?_ _)); exact BK334.out⟩, ⟨be4x9 HB.out GE277.out GE278.out GE321.out GE334.out⟩⟩
                 ·replace c133 := Bool.eq_false_iff.mpr c133
                  subst c133
                  have H1 : (laws_FnExactLevelGaps.j5 kj112 t376 t375 true) = some r := by rw [if_neg (show ¬ (false = true) by decide)] at H; exact H
                  clear H
                  have H := H1
                  clear H1
                  have H' := Aside0.mk H
                  clear H
                  obtain ⟨Ao136, co136, eo136⟩ := Kd.S_slice HO404.out
                  subst eo136
                  obtain ⟨Ao137, co137, eo137⟩ := Kd.S_slice HO_6.out
                  subst eo137
                  go_wp2_with (first | ((with_reducible refine gate_callee (f := 36) rfl ?_); refine goesL_ (some 104) rfl rfl Try.func36 (by kernel_rfl) rfl #[.slice Ao136 t402.length co136, .slice Ao137 t305.length co137] rfl mpx9 ?_; (with_reducible refine (laws_eqIntSS.calls kj112 _ _ t402 _ _ t305 false _ ?side1 ?side2 ?side3 ?side4 A132.out).mono ?_); (case side1 => repeat (first | exact (Kd.S_reads' HO404.out).2.2 | (with_reducible refine Kd.C_alloc ?_ _) | (with_reducible refine Kd.C_drewN ?_ _) | (with_reducible refine Kd.C_drew ?_))); (case side2 => exact (Kd.S_reads' HO404.out).2.1); (case side3 => repeat (first | exact (Kd.S_reads' HO_6.out).2.2 | (with_reducible refine Kd.C_alloc ?_ _) | (with_reducible refine Kd.C_drewN ?_ _) | (with_reducible refine Kd.C_drew ?_))); (case side4 => exact (Kd.S_reads' HO_6.out).2.1); rintro e w' ⟨rfl, ⟨nd, rfl⟩⟩; refine ⟨_, rfl, ?_⟩))
                  go_meet
                  case rel => exact ⟨_, (true), (by first | rfl | (simp; done) | (simp [*]; done)), H', ⟨by have := HJ24.out; have := HJ72.out; have := HJ82.out; have := HJ92.out; have := HJ112.out; first | omega | exact Nat.le_refl _⟩, ⟨by (try simp only [hl322003_92, hl322004_92, hl322005_92, hl335003_92, hl335004_92, hl335005_92, hl10_112]); (with_reducible repeat (first | apply Kd.S_alloc | apply Kd.S_drewN | apply Kd.S_drew)); exact Kd.S_mono HO_10.out (fun _ hk => ⟨hk.1.1.1.1.1.1.1.2.1, ⟨hk.1.1.1.1.1.1.1.2.2.1, ⟨hk.1.1.1.1.1.1.1.2.2.2.1, ⟨hk.1.1.1.1.1.1.1.2.2.2.2.1, ⟨hk.1.1.1.1.1.1.1.2.2.2.2.2.1, hk.1.1.1.1.1.1.1.2.2.2.2.2.2⟩⟩⟩⟩⟩)⟩, ⟨by (try simp only [hl322003_92, hl322004_92, hl322005_92, hl335003_92, hl335004_92, hl335005_92, hl10_112]); exact rRx9 (mox9 HO_322003.out)⟩, ⟨by (try simp only [hl322003_92, hl322004_92, hl322005_92, hl335003_92, hl335004_92, hl335005_92, hl10_112]); exact rRx9 (mox9 HO_322004.out)⟩, ⟨by (try simp only [hl322003_92, hl322004_92, hl322005_92, hl335003_92, hl335004_92, hl335005_92, hl10_112]); exact rRx9 (mox9 HO_322005.out)⟩, ⟨by (try simp only [hl322003_92, hl322004_92, hl322005_92, hl335003_92, hl335004_92, hl335005_92, hl10_112]); exact rRx9 (mox9 HO_335003.out)⟩, ⟨by (try simp only [hl322003_92, hl322004_92, hl322005_92, hl335003_92, hl335004_92, hl335005_92, hl10_112]); exact rRx9 (mox9 HO_335004.out)⟩, ⟨by (try simp only [hl322003_92, hl322004_92, hl322005_92, hl335003_92, hl335004_92, hl335005_92, hl10_112]); exact rRx9 (mox9 HO_335005.out)⟩, ⟨by (try simp only [hl322003_92, hl322004_92, hl322005_92, hl335003_92, hl335004_92, hl335005_92, hl10_112]); (with_reducible repeat (first | refine blk_drewN ?_ _ | refine blk_drew ?_ | refine blk_alloc ?_ _)); exact BK277.out⟩, ⟨by (try simp only [hl322003_92, hl322004_92, hl322005_92, hl335003_92, hl335004_92, hl335005_92, hl10_112]); (with_reducible repeat (first | refine blk_drewN ?_ _ | refine blk_drew ?_ | refine blk_alloc ?_ _)); exact BK278.out⟩, ⟨by (try simp only [hl322003_92, hl322004_92, hl322005_92, hl335003_92, hl335004_92, hl335005_92, hl10_112]); (with_reducible repeat (first | refine blk_drewN ?_ _ | refine blk_drew ?_ | refine blk_alloc ?_ _)); exact BK321.out⟩, ⟨by (try simp only [hl322003_92, hl322004_92, hl322005_92, hl335003_92, hl335004_92, hl335005_92, hl10_112]); (with_reducible repeat (first | refine blk_drewN ?_ _ | refine blk_drew ?_ | refine blk_alloc ?_ _)); exact BK334.out⟩, ⟨be4x9 HB.out GE277.out GE278.out GE321.out GE334.out⟩⟩
                case rest =>
                 clear HC121
                 try clear c117; try clear c117b0; try clear c117b1; try clear c133
                 obtain ⟨kq, x110_120, rfl, HA, HJ120, HO_10, HO_322003, HO_322004, HO_322005, HO_335003, HO_335004, HO_335005, BK277, BK278, BK321, BK334, HB⟩ := hcut
                 cases kq with
                 | zero => exact absurd HA.out (by simp [laws_FnExactLevelGaps.j5])
                 | succ kj120 =>
                  have H := HA.out
                  clear HA
                  simp only [laws_FnExactLevelGaps.j5] at H
                  by_cases c138 : x110_120 = true
                  ·subst c138
                   have H1 : (some false) = some r := by rw [if_pos rfl] at H; exact H
                   clear H
                   have H := H1
                   clear H1
                   obtain rfl := Option.some.inj H
                   go_wp2
                   go_ret
                   exact ⟨by first | rfl | (simp [errW_none, errW_some] <;> rfl) | (simp [*, errW_none, errW_some] <;> rfl), be4x9 HB.out GE277.out GE278.out GE321.out GE334.out⟩
                  ·replace c138 := Bool.eq_false_iff.mpr c138
                   subst c138
                   have H1 : ((laws_heldIntSS.f kj120 t376 1).bind fun t407 => (if t407 < 0 then (some false) else (if t407 = t375 then (some true) else (some false)))) = some r := by rw [if_neg (show ¬ (false = true) by decide)] at H; exact H
                   clear H
                   have H := H1
                   clear H1
                   replace H := Option.bind_eq_some_iff.mp H
                   obtain ⟨t407, A1390, H⟩ := H
                   have A139 := Aside0.mk A1390
                   clear A1390
                   by_cases c140 : t407 < 0
                   ·rw [if_pos c140] at H
                    have c140b0 : decide (t407 < 0) = true := decide_eq_true c140
                    clear c140
                    obtain rfl := Option.some.inj H
                    go_wp2_with (first | ((with_reducible refine gate_callee (f := 52) rfl ?_); refine goesL_ (some 113) rfl rfl Try.func52 (by kernel_rfl) rfl #[.slice Ao114 t376.length co114, .int .i64 1] rfl mpx9 ?_; (with_reducible refine (laws_heldIntSS.calls kj120 _ _ t376 1 t407 _ ?side1 ?side2 A139.out).mono ?_); (case side1 => repeat (first | exact (Kd.S_reads' HO_10.out).2.2 | (with_reducible refine Kd.C_alloc ?_ _) | (with_reducible refine Kd.C_drewN ?_ _) | (with_reducible refine Kd.C_drew ?_))); (case side2 => exact (Kd.S_reads' HO_10.out).2.1); rintro e w' ⟨rfl, ⟨nd, rfl⟩⟩; refine ⟨_, rfl, ?_⟩))
                    go_ret
                    exact ⟨by first | rfl | (simp [errW_none, errW_some] <;> rfl) | (simp [*, errW_none, errW_some] <;> rfl), be4x9 HB.out GE277.out GE278.out GE321.out GE334.out⟩
                   ·rw [if_neg c140] at H
                    have c140b0 : decide (t407 < 0) = false := decide_eq_false c140
                    clear c140
                    by_cases c141 : t407 = t375
                    ·rw [if_pos c141] at H
                     have c141b0 : (t407 == t375) = true := beq_iff_eq.mpr c141
                     have c141b1 : (t407 != t375) = false := bne_eq_false_iff_eq.mpr c141
                     clear c141
                     obtain rfl := Option.some.inj H
                     go_wp2_with (first | ((with_reducible refine gate_callee (f := 52) rfl ?_); refine goesL_ (some 113) rfl rfl Try.func52 (by kernel_rfl) rfl #[.slice Ao114 t376.length co114, .int .i64 1] rfl mpx9 ?_; (with_reducible refine (laws_heldIntSS.calls kj120 _ _ t376 1 t407 _ ?side1 ?side2 A139.out).mono ?_); (case side1 => repeat (first | exact (Kd.S_reads' HO_10.out).2.2 | (with_reducible refine Kd.C_alloc ?_ _) | (with_reducible refine Kd.C_drewN ?_ _) | (with_reducible refine Kd.C_drew ?_))); (case side2 => exact (Kd.S_reads' HO_10.out).2.1); rintro e w' ⟨rfl, ⟨nd, rfl⟩⟩; refine ⟨_, rfl, ?_⟩))
                     go_ret
                     exact ⟨by first | rfl | (simp [errW_none, errW_some] <;> rfl) | (simp [*, errW_none, errW_some] <;> rfl), be4x9 HB.out GE277.out GE278.out GE321.out GE334.out⟩
                    ·rw [if_neg c141] at H
                     have c141b0 : (t407 == t375) = false := beq_eq_false_iff_ne.mpr c141
                     have c141b1 : (t407 != t375) = true := bne_iff_ne.mpr c141
                     obtain rfl := Option.some.inj H
                     go_wp2_with (first | ((with_reducible refine gate_callee (f := 52) rfl ?_); refine goesL_ (some 113) rfl rfl Try.func52 (by kernel_rfl) rfl #[.slice Ao114 t376.length co114, .int .i64 1] rfl mpx9 ?_; (with_reducible refine (laws_heldIntSS.calls kj120 _ _ t376 1 t407 _ ?side1 ?side2 A139.out).mono ?_); (case side1 => repeat (first | exact (Kd.S_reads' HO_10.out).2.2 | (with_reducible refine Kd.C_alloc ?_ _) | (with_reducible refine Kd.C_drewN ?_ _) | (with_reducible refine Kd.C_drew ?_))); (case side2 => exact (Kd.S_reads' HO_10.out).2.1); rintro e w' ⟨rfl, ⟨nd, rfl⟩⟩; refine ⟨_, rfl, ?_⟩))
                     go_ret
                     exact ⟨by first | rfl | (simp [errW_none, errW_some] <;> rfl) | (simp [*, errW_none, errW_some] <;> rfl), be4x9 HB.out GE277.out GE278.out GE321.out GE334.out⟩
               ·rw [if_neg c117] at H
                have c117b0 : (t377 == t375) = false := beq_eq_false_iff_ne.mpr c117
                have c117b1 : (t377 != t375) = true := bne_iff_ne.mpr c117
                obtain rfl := Option.some.inj H
                go_wp2
                go_ret
                exact ⟨by first | rfl | (simp [errW_none, errW_some] <;> rfl) | (simp [*, errW_none, errW_some] <;> rfl), be4x9 HB.out GE277.out GE278.out GE321.out GE334.out⟩

end Go.Proofs.Ytagnldmaglbpaaa.PFnExactLevelGaps
