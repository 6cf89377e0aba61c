/- This text is this session's own, not the print's: programs (wip/squeeze.py and others) made it out of what print.sh, or wip/ownprint.py, had written (BYTES set higher), its facts said by short words. -/
import Derived.Test.YtagnldmaglbpaaaPFnExactFactorOfx0
import Derived.Test.YtagnldmaglbpaaaPFnExactFactorOfx2
import Derived.Test.YtagnldmaglbpaaaPFnExactFactorOfx4
import Derived.Test.YtagnldmaglbpaaaPFnExactFactorOfx7
import Derived.Test.YtagnldmaglbpaaaPFnExactFactorOfwx8
namespace Go.Proofs.Ytagnldmaglbpaaa.PFnExactFactorOf
open Go.RowKit Go.Proofs.YtagnldmaglbpaaaW.PrintWords Go.Proofs.YtagnldmaglbpaaaW.PrintLast Go.Proofs.YtagnldmaglbpaaaW.PrintMore
attribute [local go_sem] max2_int min2_int max_two min_two max_three min_three max_four min_four   -- for this text's walks alone
set_option linter.unusedVariables false
set_option linter.unusedSimpArgs false

/-! ### laws_FnExactFactorOf: function 8 -/
mutual
def laws_FnExactFactorOf.j0 : Nat → List Int → List Int → Bool → Int → Int → Int → List Int → List Int → List Int → Int → Int → Int → List Int → List Int → List Int → Int → Int → Int → List Int → List Int → List Int → Int → Int → Int → List Int → List Int → List Int → Option (Bool)
 | 0, _, _, _, _, _, _, _, _, _, _, _, _, _, _, _, _, _, _, _, _, _, _, _, _, _, _, _ => none
 | k + 1, x2, x15, x71, x222000, x222001, x222002, x222003, x222004, x222005, x223000, x223001, x223002, x223003, x223004, x223005, x268000, x268001, x268002, x268003, x268004, x268005, x281000, x281001, x281002, x281003, x281004, x281005 => if x71 = true then (some false) else ((laws_toModel.f k x222000 x222001 x222002 x222003 x222004 x222005).bind fun bt287 => ((laws_eqModel.f k x268000 x268001 x268002 x268003 x268004 x268005 bt287.1 bt287.2.1 bt287.2.2.1 bt287.2.2.2.1 bt287.2.2.2.2.1 bt287.2.2.2.2.2).bind fun t299 => (if t299 = true then (laws_FnExactFactorOf.j1 k x2 x15 x223000 x223001 x223002 x223003 x223004 x223005 x281000 x281001 x281002 x281003 x281004 x281005) else (some false))))
def laws_FnExactFactorOf.j1 : Nat → List Int → List Int → Int → Int → Int → List Int → List Int → List Int → Int → Int → Int → List Int → List Int → List Int → Option (Bool)
 | 0, _, _, _, _, _, _, _, _, _, _, _, _, _, _ => none
 | k + 1, x2, x15, x223000, x223001, x223002, x223003, x223004, x223005, x281000, x281001, x281002, x281003, x281004, x281005 => (laws_toModel.f k x223000 x223001 x223002 x223003 x223004 x223005).bind fun bt300 => ((laws_eqModel.f k x281000 x281001 x281002 x281003 x281004 x281005 bt300.1 bt300.2.1 bt300.2.2.1 bt300.2.2.2.1 bt300.2.2.2.2.1 bt300.2.2.2.2.2).bind fun t312 => (if t312 = true then (laws_FnExactFactorOf.j2 k x2 x15) else (some false)))
def laws_FnExactFactorOf.j2 : Nat → List Int → List Int → Option (Bool)
 | 0, _, _ => none
 | k + 1, x2, x15 => (laws_toIntS.f k x2).bind fun t313 => ((laws_eqIntS.f k x15 t313).bind fun t316 => (if t316 = true then (some true) else (some false)))
end
def laws_FnExactFactorOf.f (k : Nat) (a0_0 : Int) (a0_1 : Int) (a0_2 : Int) (l0_3 : List Int) (l0_4 : List Int) (l0_5 : List Int) (a1_0 : Int) (a1_1 : Int) (a1_2 : Int) (l1_3 : List Int) (l1_4 : List Int) (l1_5 : List Int) (l2 : List Int) (a3 : Int) : Option (Bool) := if (l2.length : Int) > 1048576 then (some true) else ((laws_szModel.f a0_0 a0_1 a0_2 l0_3 l0_4 l0_5 1048576).bind fun t223 => (if t223 < 0 then (some true) else ((laws_szModel.f a1_0 a1_1 a1_2 l1_3 l1_4 l1_5 t223).bind fun t224 => (if t224 < 0 then (some true) else ((laws_toModel.f k a0_0 a0_1 a0_2 l0_3 l0_4 l0_5).bind fun bt225 => ((laws_toModel.f k a1_0 a1_1 a1_2 l1_3 l1_4 l1_5).bind fun bt237 => ((laws_toIntS.f k l2).bind fun t249 => ((spec_FactorOf.f k bt225.1 bt225.2.1 bt225.2.2.1 bt225.2.2.2.1 bt225.2.2.2.2.1 bt225.2.2.2.2.2 bt237.1 bt237.2.1 bt237.2.2.1 bt237.2.2.2.1 bt237.2.2.2.2.1 bt237.2.2.2.2.2 t249 a3).bind fun bt252 => ((laws_toModel.f k a0_0 a0_1 a0_2 l0_3 l0_4 l0_5).bind fun bt255 => ((laws_toModel.f k a1_0 a1_1 a1_2 l1_3 l1_4 l1_5).bind fun bt268 => ((laws_toIntS.f k l2).bind fun t281 => ((impl_FactorOf.f k bt255.1 bt255.2.1 bt255.2.2.1 bt255.2.2.2.1 bt255.2.2.2.2.1 bt255.2.2.2.2.2 bt268.1 bt268.2.1 bt268.2.2.1 bt268.2.2.2.1 bt268.2.2.2.2.1 bt268.2.2.2.2.2 t281 a3).bind fun bt284 => (if bt284.1 = bt252.1 then (if bt284.2.1 = bt252.2.1 then (laws_FnExactFactorOf.j0 k l2 t281 (bt284.2.2 != bt252.2.2) a0_0 a0_1 a0_2 l0_3 l0_4 l0_5 a1_0 a1_1 a1_2 l1_3 l1_4 l1_5 bt255.1 bt255.2.1 bt255.2.2.1 bt255.2.2.2.1 bt255.2.2.2.2.1 bt255.2.2.2.2.2 bt268.1 bt268.2.1 bt268.2.2.1 bt268.2.2.2.1 bt268.2.2.2.2.1 bt268.2.2.2.2.2) else (laws_FnExactFactorOf.j0 k l2 t281 true a0_0 a0_1 a0_2 l0_3 l0_4 l0_5 a1_0 a1_1 a1_2 l1_3 l1_4 l1_5 bt255.1 bt255.2.1 bt255.2.2.1 bt255.2.2.2.1 bt255.2.2.2.2.1 bt255.2.2.2.2.2 bt268.1 bt268.2.1 bt268.2.2.1 bt268.2.2.2.1 bt268.2.2.2.2.1 bt268.2.2.2.2.2)) else (laws_FnExactFactorOf.j0 k l2 t281 true a0_0 a0_1 a0_2 l0_3 l0_4 l0_5 a1_0 a1_1 a1_2 l1_3 l1_4 l1_5 bt255.1 bt255.2.1 bt255.2.2.1 bt255.2.2.2.1 bt255.2.2.2.2.1 bt255.2.2.2.2.2 bt268.1 bt268.2.1 bt268.2.2.1 bt268.2.2.2.1 bt268.2.2.2.2.1 bt268.2.2.2.2.2))))))))))))))
def laws_FnExactFactorOf.T10 : Bool × List (List Nat × List Nat) := (true, [([], []), ([0], [0]), ([], []), ([2, 1], [2]), ([], []), ([4, 3], [4]), ([], []), ([1, 3, 5, 6, 5], [1, 3, 5, 6]), ([7], [7]), ([8], [8]), ([8], [8]), ([8], [8]), ([9, 7, 0, 1, 2, 3, 4, 5, 6, 7, 8, 9], [9]), ([10, 12, 0, 1, 2, 3, 4, 5, 6, 7, 8, 9, 10, 12], [10]), ([11, 13, 0, 1, 2, 3, 4, 5, 6, 7, 8, 9, 10, 11, 12, 13], [11])])
def laws_FnExactFactorOf.B10 : List Nat := [0, 1, 0, 7, 0, 31, 0, 127, 255, 511, 511, 511, 1023, 6143, 16383]
theorem laws_FnExactFactorOf.tab10 : rtab .any (opsOf Try.f8 10) = laws_FnExactFactorOf.T10 := by kernel_rfl
theorem laws_FnExactFactorOf.bits10 : waitsOk laws_FnExactFactorOf.T10.2 laws_FnExactFactorOf.B10 = true := by kernel_rfl
set_option maxHeartbeats 8000000 in
set_option maxRecDepth 100000 in
theorem laws_FnExactFactorOf.calls (k : Nat) (a0_0 : Int) (a0_1 : Int) (a0_2 : Int) (A0_3 : Option Addr) (c0_3 : Nat) (l0_3 : List Int) (A0_4 : Option Addr) (c0_4 : Nat) (l0_4 : List Int) (A0_5 : Option Addr) (c0_5 : Nat) (l0_5 : List Int) (a1_0 : Int) (a1_1 : Int) (a1_2 : Int) (A1_3 : Option Addr) (c1_3 : Nat) (l1_3 : List Int) (A1_4 : Option Addr) (c1_4 : Nat) (l1_4 : List Int) (A1_5 : Option Addr) (c1_5 : Nat) (l1_5 : List Int) (A2 : Option Addr) (c2 : Nat) (l2 : List Int) (a3 : Int) (r : Bool) (w : World) (hr0_3 : Kd.C (Kd.int .i64) w A0_3 l0_3.length l0_3) (hc0_3 : l0_3.length ≤ c0_3) (hr0_4 : Kd.C (Kd.int .i64) w A0_4 l0_4.length l0_4) (hc0_4 : l0_4.length ≤ c0_4) (hr0_5 : Kd.C (Kd.int .i64) w A0_5 l0_5.length l0_5) (hc0_5 : l0_5.length ≤ c0_5) (hr1_3 : Kd.C (Kd.int .i64) w A1_3 l1_3.length l1_3) (hc1_3 : l1_3.length ≤ c1_3) (hr1_4 : Kd.C (Kd.int .i64) w A1_4 l1_4.length l1_4) (hc1_4 : l1_4.length ≤ c1_4) (hr1_5 : Kd.C (Kd.int .i64) w A1_5 l1_5.length l1_5) (hc1_5 : l1_5.length ≤ c1_5) (hr2 : Kd.C (Kd.int .i64) w A2 l2.length l2) (hc2 : l2.length ≤ c2) (h : laws_FnExactFactorOf.f k a0_0 a0_1 a0_2 l0_3 l0_4 l0_5 a1_0 a1_1 a1_2 l1_3 l1_4 l1_5 l2 a3 = some r) :
  Calls Try.prog 8 #[.agg #[.int .i64 a0_0, .int .i64 a0_1, .int .i64 a0_2, .slice A0_3 l0_3.length c0_3, .slice A0_4 l0_4.length c0_4, .slice A0_5 l0_5.length c0_5], .agg #[.int .i64 a1_0, .int .i64 a1_1, .int .i64 a1_2, .slice A1_3 l1_3.length c1_3, .slice A1_4 l1_4.length c1_4, .slice A1_5 l1_5.length c1_5], .slice A2 l2.length c2, .int .i64 a3] w fun e w' => e = .returned (.bool r) ∧ Below w.heap.size w w' := by
 have hu26 := Try.underlying26
 have hu41 := Try.underlying41
 have HR0_3 := Aside0.mk hr0_3
 have HC0_3 := Aside0.mk hc0_3
 clear hr0_3 hc0_3
 have HR0_4 := Aside0.mk hr0_4
 have HC0_4 := Aside0.mk hc0_4
 clear hr0_4 hc0_4
 have HR0_5 := Aside0.mk hr0_5
 have HC0_5 := Aside0.mk hc0_5
 clear hr0_5 hc0_5
 have HR1_3 := Aside0.mk hr1_3
 have HC1_3 := Aside0.mk hc1_3
 clear hr1_3 hc1_3
 have HR1_4 := Aside0.mk hr1_4
 have HC1_4 := Aside0.mk hc1_4
 clear hr1_4 hc1_4
 have HR1_5 := Aside0.mk hr1_5
 have HC1_5 := Aside0.mk hc1_5
 clear hr1_5 hc1_5
 have HR2 := Aside0.mk hr2
 have HC2 := Aside0.mk hc2
 clear hr2 hc2
 have HB := Aside0.mk (Below.refl w.heap.size w)
 have H : (if (l2.length : Int) > 1048576 then (some true) else ((laws_szModel.f a0_0 a0_1 a0_2 l0_3 l0_4 l0_5 1048576).bind fun t223 => (if t223 < 0 then (some true) else ((laws_szModel.f a1_0 a1_1 a1_2 l1_3 l1_4 l1_5 t223).bind fun t224 => (if t224 < 0 then (some true) else ((laws_toModel.f k a0_0 a0_1 a0_2 l0_3 l0_4 l0_5).bind fun bt225 => ((laws_toModel.f k a1_0 a1_1 a1_2 l1_3 l1_4 l1_5).bind fun bt237 => ((laws_toIntS.f k l2).bind fun t249 => ((spec_FactorOf.f k bt225.1 bt225.2.1 bt225.2.2.1 bt225.2.2.2.1 bt225.2.2.2.2.1 bt225.2.2.2.2.2 bt237.1 bt237.2.1 bt237.2.2.1 bt237.2.2.2.1 bt237.2.2.2.2.1 bt237.2.2.2.2.2 t249 a3).bind fun bt252 => ((laws_toModel.f k a0_0 a0_1 a0_2 l0_3 l0_4 l0_5).bind fun bt255 => ((laws_toModel.f k a1_0 a1_1 a1_2 l1_3 l1_4 l1_5).bind fun bt268 => ((laws_toIntS.f k l2).bind fun t281 => ((impl_FactorOf.f k bt255.1 bt255.2.1 bt255.2.2.1 bt255.2.2.2.1 bt255.2.2.2.2.1 bt255.2.2.2.2.2 bt268.1 bt268.2.1 bt268.2.2.1 bt268.2.2.2.1 bt268.2.2.2.2.1 bt268.2.2.2.2.2 t281 a3).bind fun bt284 => (if bt284.1 = bt252.1 then (if bt284.2.1 = bt252.2.1 then (laws_FnExactFactorOf.j0 k l2 t281 (bt284.2.2 != bt252.2.2) a0_0 a0_1 a0_2 l0_3 l0_4 l0_5 a1_0 a1_1 a1_2 l1_3 l1_4 l1_5 bt255.1 bt255.2.1 bt255.2.2.1 bt255.2.2.2.1 bt255.2.2.2.2.1 bt255.2.2.2.2.2 bt268.1 bt268.2.1 bt268.2.2.1 bt268.2.2.2.1 bt268.2.2.2.2.1 bt268.2.2.2.2.2) else (laws_FnExactFactorOf.j0 k l2 t281 true a0_0 a0_1 a0_2 l0_3 l0_4 l0_5 a1_0 a1_1 a1_2 l1_3 l1_4 l1_5 bt255.1 bt255.2.1 bt255.2.2.1 bt255.2.2.2.1 bt255.2.2.2.2.1 bt255.2.2.2.2.2 bt268.1 bt268.2.1 bt268.2.2.1 bt268.2.2.2.1 bt268.2.2.2.2.1 bt268.2.2.2.2.2)) else (laws_FnExactFactorOf.j0 k l2 t281 true a0_0 a0_1 a0_2 l0_3 l0_4 l0_5 a1_0 a1_1 a1_2 l1_3 l1_4 l1_5 bt255.1 bt255.2.1 bt255.2.2.1 bt255.2.2.2.1 bt255.2.2.2.2.1 bt255.2.2.2.2.2 bt268.1 bt268.2.1 bt268.2.2.1 bt268.2.2.2.1 bt268.2.2.2.2.1 bt268.2.2.2.2.2))))))))))))))) = some r := h
 clear h
 by_cases c5 : (l2.length : Int) > 1048576
 ·rw [if_pos c5] at H
  have c5b0 : decide (1048576 < (l2.length : Int)) = true := decide_eq_true c5
  have c5b1 : decide (1048576 < l2.length) = true := decide_eq_true (by omega)
  clear c5
  obtain rfl := Option.some.inj H
  go_enter Try.func8, Try.ntmps8
  go_wp2_with (first | ((with_reducible refine gate_dst (N := 4) rfl ?_); refine box_event ?hg (N := 4) ?hd (cs := #[.int .i64 a0_0, .int .i64 a0_1, .int .i64 a0_2, .slice A0_3 l0_3.length c0_3, .slice A0_4 l0_4.length c0_4, .slice A0_5 l0_5.length c0_5]) (t := 26) ?hr ?_; (case hd => rfl); (case hg => rfl); (case hr => first | (go_simp; done) | (go_simp; rfl)); intro gb221 hg w6 hbox hb; have BK221 := Aside0.mk (hbox); have GW221 := Aside0.mk ((by rw [hg]; exact (below_size (be0x8 HB.out)) : w.heap.size ≤ gb221)); have GE221 := Aside0.mk ((by rw [hg]; exact (below_size (be0x8 HB.out)) : w.heap.size ≤ gb221)); replace HB := Aside0.mk (below_step (be0x8 HB.out) hb); clear hb hbox hg) | ((with_reducible refine gate_dst (N := 5) rfl ?_); refine box_event ?hg (N := 5) ?hd (cs := #[.int .i64 a1_0, .int .i64 a1_1, .int .i64 a1_2, .slice A1_3 l1_3.length c1_3, .slice A1_4 l1_4.length c1_4, .slice A1_5 l1_5.length c1_5]) (t := 26) ?hr ?_; (case hd => rfl); (case hg => rfl); (case hr => first | (go_simp; done) | (go_simp; rfl)); intro gb222 hg w7 hbox hb; have BK222 := Aside0.mk (hbox); have GW222 := Aside0.mk ((by rw [hg]; exact (below_size (be1x8 HB.out GE221.out)) : w.heap.size ≤ gb222)); have GE222 := Aside0.mk ((by rw [hg]; exact (below_size (be1x8 HB.out GE221.out)) : w.heap.size ≤ gb222)); replace HB := Aside0.mk (below_step (be1x8 HB.out GE221.out) hb); have NB221_222 := Aside0.mk ((by rw [hg]; exact Nat.ne_of_lt (blk_lt (g := gb221) (o := .cells #[.int .i64 a0_0, .int .i64 a0_1, .int .i64 a0_2, .slice A0_3 l0_3.length c0_3, .slice A0_4 l0_4.length c0_4, .slice A0_5 l0_5.length c0_5] 26 (0, 0)) (rBx8 BK221.out)) : gb221 ≠ gb222)); have NB222_221 := Aside0.mk ((by rw [hg]; exact Nat.ne_of_gt (blk_lt (g := gb221) (o := .cells #[.int .i64 a0_0, .int .i64 a0_1, .int .i64 a0_2, .slice A0_3 l0_3.length c0_3, .slice A0_4 l0_4.length c0_4, .slice A0_5 l0_5.length c0_5] 26 (0, 0)) (rBx8 BK221.out)) : gb222 ≠ gb221)); replace BK221 := Aside0.mk (blk_below (g := gb221) (o := .cells #[.int .i64 a0_0, .int .i64 a0_1, .int .i64 a0_2, .slice A0_3 l0_3.length c0_3, .slice A0_4 l0_4.length c0_4, .slice A0_5 l0_5.length c0_5] 26 (0, 0)) (rBx8 BK221.out) hb); clear hb hbox hg))
  go_ret
  exact ⟨by first | rfl | (simp [errW_none, errW_some] <;> rfl) | (simp [*, errW_none, errW_some] <;> rfl), be2x8 HB.out GE221.out GE222.out⟩
 ·rw [if_neg c5] at H
  have c5b0 : decide (1048576 < (l2.length : Int)) = false := decide_eq_false c5
  have c5b1 : decide (1048576 < l2.length) = false := decide_eq_false (by omega)
  clear c5
  replace H := Option.bind_eq_some_iff.mp H
  obtain ⟨t223, A80, H⟩ := H
  have A8 := Aside0.mk A80
  clear A80
  by_cases c9 : t223 < 0
  ·rw [if_pos c9] at H
   have c9b0 : decide (t223 < 0) = true := decide_eq_true c9
   clear c9
   obtain rfl := Option.some.inj H
   go_enter Try.func8, Try.ntmps8
   go_wp2_with (first | ((with_reducible refine gate_dst (N := 4) rfl ?_); refine box_event ?hg (N := 4) ?hd (cs := #[.int .i64 a0_0, .int .i64 a0_1, .int .i64 a0_2, .slice A0_3 l0_3.length c0_3, .slice A0_4 l0_4.length c0_4, .slice A0_5 l0_5.length c0_5]) (t := 26) ?hr ?_; (case hd => rfl); (case hg => rfl); (case hr => first | (go_simp; done) | (go_simp; rfl)); intro gb221 hg w10 hbox hb; have BK221 := Aside0.mk (hbox); have GW221 := Aside0.mk ((by rw [hg]; exact (below_size (be0x8 HB.out)) : w.heap.size ≤ gb221)); have GE221 := Aside0.mk ((by rw [hg]; exact (below_size (be0x8 HB.out)) : w.heap.size ≤ gb221)); replace HB := Aside0.mk (below_step (be0x8 HB.out) hb); clear hb hbox hg) | ((with_reducible refine gate_dst (N := 5) rfl ?_); refine box_event ?hg (N := 5) ?hd (cs := #[.int .i64 a1_0, .int .i64 a1_1, .int .i64 a1_2, .slice A1_3 l1_3.length c1_3, .slice A1_4 l1_4.length c1_4, .slice A1_5 l1_5.length c1_5]) (t := 26) ?hr ?_; (case hd => rfl); (case hg => rfl); (case hr => first | (go_simp; done) | (go_simp; rfl)); intro gb222 hg w11 hbox hb; have BK222 := Aside0.mk (hbox); have GW222 := Aside0.mk ((by rw [hg]; exact (below_size (be1x8 HB.out GE221.out)) : w.heap.size ≤ gb222)); have GE222 := Aside0.mk ((by rw [hg]; exact (below_size (be1x8 HB.out GE221.out)) : w.heap.size ≤ gb222)); replace HB := Aside0.mk (below_step (be1x8 HB.out GE221.out) hb); have NB221_222 := Aside0.mk ((by rw [hg]; exact Nat.ne_of_lt (blk_lt (g := gb221) (o := .cells #[.int .i64 a0_0, .int .i64 a0_1, .int .i64 a0_2, .slice A0_3 l0_3.length c0_3, .slice A0_4 l0_4.length c0_4, .slice A0_5 l0_5.length c0_5] 26 (0, 0)) (rBx8 BK221.out)) : gb221 ≠ gb222)); have NB222_221 := Aside0.mk ((by rw [hg]; exact Nat.ne_of_gt (blk_lt (g := gb221) (o := .cells #[.int .i64 a0_0, .int .i64 a0_1, .int .i64 a0_2, .slice A0_3 l0_3.length c0_3, .slice A0_4 l0_4.length c0_4, .slice A0_5 l0_5.length c0_5] 26 (0, 0)) (rBx8 BK221.out)) : gb222 ≠ gb221)); replace BK221 := Aside0.mk (blk_below (g := gb221) (o := .cells #[.int .i64 a0_0, .int .i64 a0_1, .int .i64 a0_2, .slice A0_3 l0_3.length c0_3, .slice A0_4 l0_4.length c0_4, .slice A0_5 l0_5.length c0_5] 26 (0, 0)) (rBx8 BK221.out) hb); clear hb hbox hg; have hnb12 := NB221_222.out; have hnc12 := NB222_221.out; obtain ⟨hcz13_0, hcz13_1, hcz13_2, hcz13_3, hcz13_4, hcz13_5, hfz13_0, hfz13_1, hfz13_2, hfz13_3, hfz13_4, hfz13_5⟩ := cf6x8 BK221.out) | ((with_reducible refine gate_callee (f := 15) rfl ?_); refine goesL_ (some 24) rfl rfl Try.func15 (by kernel_rfl) rfl #[.agg #[.int .i64 a0_0, .int .i64 a0_1, .int .i64 a0_2, .slice A0_3 l0_3.length c0_3, .slice A0_4 l0_4.length c0_4, .slice A0_5 l0_5.length c0_5], .int .i64 1048576] rfl mpx8 ?_; (with_reducible refine (laws_szModel.calls a0_0 a0_1 a0_2 _ _ l0_3 _ _ l0_4 _ _ l0_5 1048576 t223 _ ?side1 ?side2 ?side3 ?side4 ?side5 ?side6 A8.out).mono ?_); (case side1 => exact rCx8 (Kd.C_below HR0_3.out HB.out)); (case side2 => exact HC0_3.out); (case side3 => exact rCx8 (Kd.C_below HR0_4.out HB.out)); (case side4 => exact HC0_4.out); (case side5 => exact rCx8 (Kd.C_below HR0_5.out HB.out)); (case side6 => exact HC0_5.out); rintro e w14 ⟨rfl, hb⟩; refine ⟨_, rfl, ?_⟩; replace BK221 := Aside0.mk (blk_below (g := gb221) (o := .cells #[.int .i64 a0_0, .int .i64 a0_1, .int .i64 a0_2, .slice A0_3 l0_3.length c0_3, .slice A0_4 l0_4.length c0_4, .slice A0_5 l0_5.length c0_5] 26 (0, 0)) (rBx8 BK221.out) hb); replace BK222 := Aside0.mk (blk_below (g := gb222) (o := .cells #[.int .i64 a1_0, .int .i64 a1_1, .int .i64 a1_2, .slice A1_3 l1_3.length c1_3, .slice A1_4 l1_4.length c1_4, .slice A1_5 l1_5.length c1_5] 26 (0, 0)) (rBx8 BK222.out) hb); replace HB := Aside0.mk (below_step (be2x8 HB.out GE221.out GE222.out) hb); (try clear hb); (try clear hb2); (try clear hk); (try clear hi)))
   go_ret
   exact ⟨by first | rfl | (simp [errW_none, errW_some] <;> rfl) | (simp [*, errW_none, errW_some] <;> rfl), be2x8 HB.out GE221.out GE222.out⟩
  ·rw [if_neg c9] at H
   have c9b0 : decide (t223 < 0) = false := decide_eq_false c9
   clear c9
   replace H := Option.bind_eq_some_iff.mp H
   obtain ⟨t224, A150, H⟩ := H
   have A15 := Aside0.mk A150
   clear A150
   by_cases c16 : t224 < 0
   ·rw [if_pos c16] at H
    have c16b0 : decide (t224 < 0) = true := decide_eq_true c16
    clear c16
    obtain rfl := Option.some.inj H
    go_enter Try.func8, Try.ntmps8
    go_wp2_with (first | ((with_reducible refine gate_dst (N := 4) rfl ?_); refine box_event ?hg (N := 4) ?hd (cs := #[.int .i64 a0_0, .int .i64 a0_1, .int .i64 a0_2, .slice A0_3 l0_3.length c0_3, .slice A0_4 l0_4.length c0_4, .slice A0_5 l0_5.length c0_5]) (t := 26) ?hr ?_; (case hd => rfl); (case hg => rfl); (case hr => first | (go_simp; done) | (go_simp; rfl)); intro gb221 hg w17 hbox hb; have BK221 := Aside0.mk (hbox); have GW221 := Aside0.mk ((by rw [hg]; exact (below_size (be0x8 HB.out)) : w.heap.size ≤ gb221)); have GE221 := Aside0.mk ((by rw [hg]; exact (below_size (be0x8 HB.out)) : w.heap.size ≤ gb221)); replace HB := Aside0.mk (below_step (be0x8 HB.out) hb); clear hb hbox hg) | ((with_reducible refine gate_dst (N := 5) rfl ?_); refine box_event ?hg (N := 5) ?hd (cs := #[.int .i64 a1_0, .int .i64 a1_1, .int .i64 a1_2, .slice A1_3 l1_3.length c1_3, .slice A1_4 l1_4.length c1_4, .slice A1_5 l1_5.length c1_5]) (t := 26) ?hr ?_; (case hd => rfl); (case hg => rfl); (case hr => first | (go_simp; done) | (go_simp; rfl)); intro gb222 hg w18 hbox hb; have BK222 := Aside0.mk (hbox); have GW222 := Aside0.mk ((by rw [hg]; exact (below_size (be1x8 HB.out GE221.out)) : w.heap.size ≤ gb222)); have GE222 := Aside0.mk ((by rw [hg]; exact (below_size (be1x8 HB.out GE221.out)) : w.heap.size ≤ gb222)); replace HB := Aside0.mk (below_step (be1x8 HB.out GE221.out) hb); have NB221_222 := Aside0.mk ((by rw [hg]; exact Nat.ne_of_lt (blk_lt (g := gb221) (o := .cells #[.int .i64 a0_0, .int .i64 a0_1, .int .i64 a0_2, .slice A0_3 l0_3.length c0_3, .slice A0_4 l0_4.length c0_4, .slice A0_5 l0_5.length c0_5] 26 (0, 0)) (rBx8 BK221.out)) : gb221 ≠ gb222)); have NB222_221 := Aside0.mk ((by rw [hg]; exact Nat.ne_of_gt (blk_lt (g := gb221) (o := .cells #[.int .i64 a0_0, .int .i64 a0_1, .int .i64 a0_2, .slice A0_3 l0_3.length c0_3, .slice A0_4 l0_4.length c0_4, .slice A0_5 l0_5.length c0_5] 26 (0, 0)) (rBx8 BK221.out)) : gb222 ≠ gb221)); replace BK221 := Aside0.mk (blk_below (g := gb221) (o := .cells #[.int .i64 a0_0, .int .i64 a0_1, .int .i64 a0_2, .slice A0_3 l0_3.length c0_3, .slice A0_4 l0_4.length c0_4, .slice A0_5 l0_5.length c0_5] 26 (0, 0)) (rBx8 BK221.out) hb); clear hb hbox hg; have hnb19 := NB221_222.out; have hnc19 := NB222_221.out; obtain ⟨hcz20_0, hcz20_1, hcz20_2, hcz20_3, hcz20_4, hcz20_5, hfz20_0, hfz20_1, hfz20_2, hfz20_3, hfz20_4, hfz20_5⟩ := cf6x8 BK221.out) | ((with_reducible refine gate_callee (f := 15) rfl ?_); refine goesL_ (some 24) rfl rfl Try.func15 (by kernel_rfl) rfl #[.agg #[.int .i64 a0_0, .int .i64 a0_1, .int .i64 a0_2, .slice A0_3 l0_3.length c0_3, .slice A0_4 l0_4.length c0_4, .slice A0_5 l0_5.length c0_5], .int .i64 1048576] rfl mpx8 ?_; (with_reducible refine (laws_szModel.calls a0_0 a0_1 a0_2 _ _ l0_3 _ _ l0_4 _ _ l0_5 1048576 t223 _ ?side1 ?side2 ?side3 ?side4 ?side5 ?side6 A8.out).mono ?_); (case side1 => exact rCx8 (Kd.C_below HR0_3.out HB.out)); (case side2 => exact HC0_3.out); (case side3 => exact rCx8 (Kd.C_below HR0_4.out HB.out)); (case side4 => exact HC0_4.out); (case side5 => exact rCx8 (Kd.C_below HR0_5.out HB.out)); (case side6 => exact HC0_5.out); rintro e w21 ⟨rfl, hb⟩; refine ⟨_, rfl, ?_⟩; replace BK221 := Aside0.mk (blk_below (g := gb221) (o := .cells #[.int .i64 a0_0, .int .i64 a0_1, .int .i64 a0_2, .slice A0_3 l0_3.length c0_3, .slice A0_4 l0_4.length c0_4, .slice A0_5 l0_5.length c0_5] 26 (0, 0)) (rBx8 BK221.out) hb); replace BK222 := Aside0.mk (blk_below (g := gb222) (o := .cells #[.int .i64 a1_0, .int .i64 a1_1, .int .i64 a1_2, .slice A1_3 l1_3.length c1_3, .slice A1_4 l1_4.length c1_4, .slice A1_5 l1_5.length c1_5] 26 (0, 0)) (rBx8 BK222.out) hb); replace HB := Aside0.mk (below_step (be2x8 HB.out GE221.out GE222.out) hb); (try clear hb); (try clear hb2); (try clear hk); (try clear hi); obtain ⟨hcz22_0, hcz22_1, hcz22_2, hcz22_3, hcz22_4, hcz22_5, hfz22_0, hfz22_1, hfz22_2, hfz22_3, hfz22_4, hfz22_5⟩ := cf6x8 BK222.out) | ((with_reducible refine gate_callee (f := 15) rfl ?_); refine goesL_ (some 29) rfl rfl Try.func15 (by kernel_rfl) rfl #[.agg #[.int .i64 a1_0, .int .i64 a1_1, .int .i64 a1_2, .slice A1_3 l1_3.length c1_3, .slice A1_4 l1_4.length c1_4, .slice A1_5 l1_5.length c1_5], .int .i64 t223] rfl mpx8 ?_; (with_reducible refine (laws_szModel.calls a1_0 a1_1 a1_2 _ _ l1_3 _ _ l1_4 _ _ l1_5 t223 t224 _ ?side1 ?side2 ?side3 ?side4 ?side5 ?side6 A15.out).mono ?_); (case side1 => exact rCx8 (Kd.C_below HR1_3.out HB.out)); (case side2 => exact HC1_3.out); (case side3 => exact rCx8 (Kd.C_below HR1_4.out HB.out)); (case side4 => exact HC1_4.out); (case side5 => exact rCx8 (Kd.C_below HR1_5.out HB.out)); (case side6 => exact HC1_5.out); rintro e w23 ⟨rfl, hb⟩; refine ⟨_, rfl, ?_⟩; replace BK221 := Aside0.mk (blk_below (g := gb221) (o := .cells #[.int .i64 a0_0, .int .i64 a0_1, .int .i64 a0_2, .slice A0_3 l0_3.length c0_3, .slice A0_4 l0_4.length c0_4, .slice A0_5 l0_5.length c0_5] 26 (0, 0)) (rBx8 BK221.out) hb); replace BK222 := Aside0.mk (blk_below (g := gb222) (o := .cells #[.int .i64 a1_0, .int .i64 a1_1, .int .i64 a1_2, .slice A1_3 l1_3.length c1_3, .slice A1_4 l1_4.length c1_4, .slice A1_5 l1_5.length c1_5] 26 (0, 0)) (rBx8 BK222.out) hb); replace HB := Aside0.mk (below_step (be2x8 HB.out GE221.out GE222.out) hb); (try clear hb); (try clear hb2); (try clear hk); (try clear hi)))
    go_ret
    exact ⟨by first | rfl | (simp [errW_none, errW_some] <;> rfl) | (simp [*, errW_none, errW_some] <;> rfl), be2x8 HB.out GE221.out GE222.out⟩
   ·rw [if_neg c16] at H
    have c16b0 : decide (t224 < 0) = false := decide_eq_false c16
    clear c16
    replace H := Option.bind_eq_some_iff.mp H
    obtain ⟨⟨t225, t226, t227, t228, t231, t234⟩, A240, H⟩ := H
    (try dsimp only at H)
    have A24 := Aside0.mk A240
    clear A240
    replace H := Option.bind_eq_some_iff.mp H
    obtain ⟨⟨t237, t238, t239, t240, t243, t246⟩, A250, H⟩ := H
    (try dsimp only at H)
    have A25 := Aside0.mk A250
    clear A250
    replace H := Option.bind_eq_some_iff.mp H
    obtain ⟨t249, A260, H⟩ := H
    have A26 := Aside0.mk A260
    clear A260
    replace H := Option.bind_eq_some_iff.mp H
    obtain ⟨⟨t252, t253, t254⟩, A270, H⟩ := H
    (try dsimp only at H)
    have A27 := Aside0.mk A270
    clear A270
    replace H := Option.bind_eq_some_iff.mp H
    obtain ⟨⟨t255, t256, t257, t258, t261, t264⟩, A280, H⟩ := H
    (try dsimp only at H)
    have A28 := Aside0.mk A280
    clear A280
    replace H := Option.bind_eq_some_iff.mp H
    obtain ⟨⟨t268, t269, t270, t271, t274, t277⟩, A290, H⟩ := H
    (try dsimp only at H)
    have A29 := Aside0.mk A290
    clear A290
    replace H := Option.bind_eq_some_iff.mp H
    obtain ⟨t281, A300, H⟩ := H
    have A30 := Aside0.mk A300
    clear A300
    replace H := Option.bind_eq_some_iff.mp H
    obtain ⟨⟨t284, t285, t286⟩, A310, H⟩ := H
    (try dsimp only at H)
    have A31 := Aside0.mk A310
    clear A310
    have HC32 := Aside0.mk H
    clear H
    go_enter Try.func8, Try.ntmps8
    try go_wp2_with (first | ((with_reducible refine gate_dst (N := 4) rfl ?_); refine box_event ?hg (N := 4) ?hd (cs := #[.int .i64 a0_0, .int .i64 a0_1, .int .i64 a0_2, .slice A0_3 l0_3.length c0_3, .slice A0_4 l0_4.length c0_4, .slice A0_5 l0_5.length c0_5]) (t := 26) ?hr ?_; (case hd => rfl); (case hg => rfl); (case hr => first | (go_simp; done) | (go_simp; rfl)); intro gb221 hg w33 hbox hb; have BK221 := Aside0.mk (hbox); have GW221 := Aside0.mk ((by rw [hg]; exact (below_size (be0x8 HB.out)) : w.heap.size ≤ gb221)); have GE221 := Aside0.mk ((by rw [hg]; exact (below_size (be0x8 HB.out)) : w.heap.size ≤ gb221)); replace HB := Aside0.mk (below_step (be0x8 HB.out) hb); clear hb hbox hg) | ((with_reducible refine gate_dst (N := 5) rfl ?_); refine box_event ?hg (N := 5) ?hd (cs := #[.int .i64 a1_0, .int .i64 a1_1, .int .i64 a1_2, .slice A1_3 l1_3.length c1_3, .slice A1_4 l1_4.length c1_4, .slice A1_5 l1_5.length c1_5]) (t := 26) ?hr ?_; (case hd => rfl); (case hg => rfl); (case hr => first | (go_simp; done) | (go_simp; rfl)); intro gb222 hg w34 hbox hb; have BK222 := Aside0.mk (hbox); have GW222 := Aside0.mk ((by rw [hg]; exact (below_size (be1x8 HB.out GE221.out)) : w.heap.size ≤ gb222)); have GE222 := Aside0.mk ((by rw [hg]; exact (below_size (be1x8 HB.out GE221.out)) : w.heap.size ≤ gb222)); replace HB := Aside0.mk (below_step (be1x8 HB.out GE221.out) hb); have NB221_222 := Aside0.mk ((by rw [hg]; exact Nat.ne_of_lt (blk_lt (g := gb221) (o := .cells #[.int .i64 a0_0, .int .i64 a0_1, .int .i64 a0_2, .slice A0_3 l0_3.length c0_3, .slice A0_4 l0_4.length c0_4, .slice A0_5 l0_5.length c0_5] 26 (0, 0)) (rBx8 BK221.out)) : gb221 ≠ gb222)); have NB222_221 := Aside0.mk ((by rw [hg]; exact Nat.ne_of_gt (blk_lt (g := gb221) (o := .cells #[.int .i64 a0_0, .int .i64 a0_1, .int .i64 a0_2, .slice A0_3 l0_3.length c0_3, .slice A0_4 l0_4.length c0_4, .slice A0_5 l0_5.length c0_5] 26 (0, 0)) (rBx8 BK221.out)) : gb222 ≠ gb221)); replace BK221 := Aside0.mk (blk_below (g := gb221) (o := .cells #[.int .i64 a0_0, .int .i64 a0_1, .int .i64 a0_2, .slice A0_3 l0_3.length c0_3, .slice A0_4 l0_4.length c0_4, .slice A0_5 l0_5.length c0_5] 26 (0, 0)) (rBx8 BK221.out) hb); clear hb hbox hg; have hnb35 := NB221_222.out; have hnc35 := NB222_221.out; obtain ⟨hcz36_0, hcz36_1, hcz36_2, hcz36_3, hcz36_4, hcz36_5, hfz36_0, hfz36_1, hfz36_2, hfz36_3, hfz36_4, hfz36_5⟩ := cf6x8 BK221.out) | ((with_reducible refine gate_callee (f := 15) rfl ?_); refine goesL_ (some 24) rfl rfl Try.func15 (by kernel_rfl) rfl #[.agg #[.int .i64 a0_0, .int .i64 a0_1, .int .i64 a0_2, .slice A0_3 l0_3.length c0_3, .slice A0_4 l0_4.length c0_4, .slice A0_5 l0_5.length c0_5], .int .i64 1048576] rfl mpx8 ?_; (with_reducible refine (laws_szModel.calls a0_0 a0_1 a0_2 _ _ l0_3 _ _ l0_4 _ _ l0_5 1048576 t223 _ ?side1 ?side2 ?side3 ?side4 ?side5 ?side6 A8.out).mono ?_); (case side1 => exact rCx8 (Kd.C_below HR0_3.out HB.out)); (case side2 => exact HC0_3.out); (case side3 => exact rCx8 (Kd.C_below HR0_4.out HB.out)); (case side4 => exact HC0_4.out); (case side5 => exact rCx8 (Kd.C_below HR0_5.out HB.out)); (case side6 => exact HC0_5.out); rintro e w37 ⟨rfl, hb⟩; refine ⟨_, rfl, ?_⟩; replace BK221 := Aside0.mk (blk_below (g := gb221) (o := .cells #[.int .i64 a0_0, .int .i64 a0_1, .int .i64 a0_2, .slice A0_3 l0_3.length c0_3, .slice A0_4 l0_4.length c0_4, .slice A0_5 l0_5.length c0_5] 26 (0, 0)) (rBx8 BK221.out) hb); replace BK222 := Aside0.mk (blk_below (g := gb222) (o := .cells #[.int .i64 a1_0, .int .i64 a1_1, .int .i64 a1_2, .slice A1_3 l1_3.length c1_3, .slice A1_4 l1_4.length c1_4, .slice A1_5 l1_5.length c1_5] 26 (0, 0)) (rBx8 BK222.out) hb); replace HB := Aside0.mk (below_step (be2x8 HB.out GE221.out GE222.out) hb); (try clear hb); (try clear hb2); (try clear hk); (try clear hi); obtain ⟨hcz38_0, hcz38_1, hcz38_2, hcz38_3, hcz38_4, hcz38_5, hfz38_0, hfz38_1, hfz38_2, hfz38_3, hfz38_4, hfz38_5⟩ := cf6x8 BK222.out) | ((with_reducible refine gate_callee (f := 15) rfl ?_); refine goesL_ (some 29) rfl rfl Try.func15 (by kernel_rfl) rfl #[.agg #[.int .i64 a1_0, .int .i64 a1_1, .int .i64 a1_2, .slice A1_3 l1_3.length c1_3, .slice A1_4 l1_4.length c1_4, .slice A1_5 l1_5.length c1_5], .int .i64 t223] rfl mpx8 ?_; (with_reducible refine (laws_szModel.calls a1_0 a1_1 a1_2 _ _ l1_3 _ _ l1_4 _ _ l1_5 t223 t224 _ ?side1 ?side2 ?side3 ?side4 ?side5 ?side6 A15.out).mono ?_); (case side1 => exact rCx8 (Kd.C_below HR1_3.out HB.out)); (case side2 => exact HC1_3.out); (case side3 => exact rCx8 (Kd.C_below HR1_4.out HB.out)); (case side4 => exact HC1_4.out); (case side5 => exact rCx8 (Kd.C_below HR1_5.out HB.out)); (case side6 => exact HC1_5.out); rintro e w39 ⟨rfl, hb⟩; refine ⟨_, rfl, ?_⟩; replace BK221 := Aside0.mk (blk_below (g := gb221) (o := .cells #[.int .i64 a0_0, .int .i64 a0_1, .int .i64 a0_2, .slice A0_3 l0_3.length c0_3, .slice A0_4 l0_4.length c0_4, .slice A0_5 l0_5.length c0_5] 26 (0, 0)) (rBx8 BK221.out) hb); replace BK222 := Aside0.mk (blk_below (g := gb222) (o := .cells #[.int .i64 a1_0, .int .i64 a1_1, .int .i64 a1_2, .slice A1_3 l1_3.length c1_3, .slice A1_4 l1_4.length c1_4, .slice A1_5 l1_5.length c1_5] 26 (0, 0)) (rBx8 BK222.out) hb); replace HB := Aside0.mk (below_step (be2x8 HB.out GE221.out GE222.out) hb); (try clear hb); (try clear hb2); (try clear hk); (try clear hi)))
    have n0_ := Aside0.mk (blk_drew BK221.out)
    have n1_ := Aside0.mk (blk_drew BK222.out)
    have n2_ := Aside0.mk (below_drew1 HB.out)
    clear BK221
    clear BK222
    clear HB
    have BK221 := n0_
    have BK222 := n1_
    have HB := n2_
    clear n0_ n1_ n2_
    refine start_ (n := 15) (S := fun w' => w'.cell? ⟨gb221, 0, none⟩ = some (.int .i64 a0_0) ∧ w'.cell? ⟨gb221, 1, none⟩ = some (.int .i64 a0_1) ∧ w'.cell? ⟨gb221, 2, none⟩ = some (.int .i64 a0_2) ∧ w'.cell? ⟨gb221, 3, none⟩ = some (.slice A0_3 l0_3.length c0_3) ∧ w'.cell? ⟨gb221, 4, none⟩ = some (.slice A0_4 l0_4.length c0_4) ∧ w'.cell? ⟨gb221, 5, none⟩ = some (.slice A0_5 l0_5.length c0_5) ∧ w'.cell? ⟨gb222, 0, none⟩ = some (.int .i64 a1_0) ∧ w'.cell? ⟨gb222, 1, none⟩ = some (.int .i64 a1_1) ∧ w'.cell? ⟨gb222, 2, none⟩ = some (.int .i64 a1_2) ∧ w'.cell? ⟨gb222, 3, none⟩ = some (.slice A1_3 l1_3.length c1_3) ∧ w'.cell? ⟨gb222, 4, none⟩ = some (.slice A1_4 l1_4.length c1_4) ∧ w'.cell? ⟨gb222, 5, none⟩ = some (.slice A1_5 l1_5.length c1_5)) (ds := []) #[false, false, false, false, false, false, false, false, false, false, false, false, false, false, false] (by kernel_rfl) rfl rfl (ca6x8 BK221.out (cc6x8 BK222.out)) (fun hHeld => ?_); refine with_tabW laws_FnExactFactorOf.tab10 laws_FnExactFactorOf.bits10 (fun HT_ HW_ => ?_)
    generalize w39.drew = w40 at BK221 BK222 HB hHeld ⊢
    refine pure_ (i := 4) (N := some 37) (v := ?_) (a' := ?_) #[false, false, false, false, true, false, false, false, false, false, false, false, false, false, false] rfl rfl (any_of HT_.out (by kernel_rfl)) (fun _ _ _ h => h) (Or.inl ⟨by rfl, ?_⟩) ?_ ?_
    rotate_left
    ·intro w'
     go_simp
     with_reducible rfl
    rotate_left
    ·simp only [Act.put, List.setIfInBounds_toArray, List.set_cons_zero, List.set_cons_succ, i64_w, i32_w]
     rfl
    refine pure_ (i := 6) (N := some 39) (v := ?_) (a' := ?_) #[false, false, false, false, true, false, true, false, false, false, false, false, false, false, false] rfl rfl (any_of HT_.out (by kernel_rfl)) (fun _ _ _ h => h) (Or.inl ⟨by rfl, ?_⟩) ?_ ?_
    rotate_left
    ·intro w'
     go_simp
     with_reducible rfl
    rotate_left
    ·simp only [Act.put, List.setIfInBounds_toArray, List.set_cons_zero, List.set_cons_succ, i64_w, i32_w]
     rfl
    refine take_ (i := 0) (N := some 33) (v := ?_) (a' := ?_) #[true, false, false, false, true, false, true, false, false, false, false, false, false, false, false] rfl rfl (take_ofW HT_.out HW_.out (by kernel_rfl)) (fun _ _ _ h => h) (Or.inl ⟨by rfl, ?_⟩) hHeld ?_ ?_
    rotate_left
    ·rintro w' ⟨s0, s1, s2, s3, s4, s5, s6, s7, s8, s9, s10, s11⟩
     go_simp
     with_reducible rfl
    rotate_left
    ·simp only [Act.put, List.setIfInBounds_toArray, List.set_cons_zero, List.set_cons_succ, i64_w, i32_w]
     rfl
    refine take_ (i := 2) (N := some 35) (v := ?_) (a' := ?_) #[true, false, true, false, true, false, true, false, false, false, false, false, false, false, false] rfl rfl (take_ofW HT_.out HW_.out (by kernel_rfl)) (fun _ _ _ h => h) (Or.inl ⟨by rfl, ?_⟩) hHeld ?_ ?_
    rotate_left
    ·rintro w' ⟨s0, s1, s2, s3, s4, s5, s6, s7, s8, s9, s10, s11⟩
     go_simp
     with_reducible rfl
    rotate_left
    ·simp only [Act.put, List.setIfInBounds_toArray, List.set_cons_zero, List.set_cons_succ, i64_w, i32_w]
     rfl
    refine one_ (i := 1) (N := some 34) #[true, true, true, false, true, false, true, false, false, false, false, false, false, false, false] rfl rfl (one_of HT_.out (by kernel_rfl)) (by decide) (fun K hK => ?_)
    refine goes_ Try.func19 (by kernel_rfl) rfl #[.agg #[.int .i64 a0_0, .int .i64 a0_1, .int .i64 a0_2, .slice A0_3 l0_3.length c0_3, .slice A0_4 l0_4.length c0_4, .slice A0_5 l0_5.length c0_5]] (by rfl) rfl rfl mpx8 ?_
    with_reducible refine (laws_toModel.calls k a0_0 a0_1 a0_2 _ _ l0_3 _ _ l0_4 _ _ l0_5 t225 t226 t227 t228 t231 t234 _ ?side1 ?side2 ?side3 ?side4 ?side5 ?side6 A24.out).mono ?_
    (case side1 => exact rCx8 (Kd.C_below HR0_3.out HB.out))
    (case side2 => exact HC0_3.out)
    (case side3 => exact rCx8 (Kd.C_below HR0_4.out HB.out))
    (case side4 => exact HC0_4.out)
    (case side5 => exact rCx8 (Kd.C_below HR0_5.out HB.out))
    (case side6 => exact HC0_5.out)
    rintro e w41 ⟨v229, v232, v235, rfl, ho0, ho1, ho2, hb⟩
    refine ⟨_, rfl, ?_⟩
    have n0_ := Aside0.mk (Kd.R_lower ho0 (below_size (be2x8 HB.out GE221.out GE222.out)))
    have n1_ := Aside0.mk (Kd.R_lower ho1 (below_size (be2x8 HB.out GE221.out GE222.out)))
    have n2_ := Aside0.mk (Kd.R_lower ho2 (below_size (be2x8 HB.out GE221.out GE222.out)))
    have n3_ := Aside0.mk (blk_below (g := gb221) (o := .cells #[.int .i64 a0_0, .int .i64 a0_1, .int .i64 a0_2, .slice A0_3 l0_3.length c0_3, .slice A0_4 l0_4.length c0_4, .slice A0_5 l0_5.length c0_5] 26 (0, 0)) (rBx8 BK221.out) hb)
    have n4_ := Aside0.mk (blk_below (g := gb222) (o := .cells #[.int .i64 a1_0, .int .i64 a1_1, .int .i64 a1_2, .slice A1_3 l1_3.length c1_3, .slice A1_4 l1_4.length c1_4, .slice A1_5 l1_5.length c1_5] 26 (0, 0)) (rBx8 BK222.out) hb)
    have n5_ := Aside0.mk (below_step (be2x8 HB.out GE221.out GE222.out) hb)
    clear BK221
    clear BK222
    clear HB
    have HO230 := n0_
    have HO233 := n1_
    have HO236 := n2_
    have BK221 := n3_
    have BK222 := n4_
    have HB := n5_
    clear n0_ n1_ n2_ n3_ n4_ n5_
    (try clear hb)
    (try clear hb2)
    (try clear hk)
    (try clear hi)
    (try clear ho0)
    (try clear ho1)
    (try clear ho2)
    refine hK.out _ _ (ca6x8 BK221.out (cc6x8 BK222.out)) (fun hHeld => ?_)
    clear hK K
    refine norm_ (a' := ?_) ?_ ?_
    rotate_left
    ·show Act.put _ (some 34) _ = _
     simp only [Act.put, List.setIfInBounds_toArray, List.set_cons_zero, List.set_cons_succ, i64_w, i32_w]
     rfl
    refine one_ (i := 3) (N := some 36) #[true, true, true, true, true, false, true, false, false, false, false, false, false, false, false] rfl rfl (one_of HT_.out (by kernel_rfl)) (by decide) (fun K hK => ?_)
    refine goes_ Try.func19 (by kernel_rfl) rfl #[.agg #[.int .i64 a1_0, .int .i64 a1_1, .int .i64 a1_2, .slice A1_3 l1_3.length c1_3, .slice A1_4 l1_4.length c1_4, .slice A1_5 l1_5.length c1_5]] (by rfl) rfl rfl mpx8 ?_
    with_reducible refine (laws_toModel.calls k a1_0 a1_1 a1_2 _ _ l1_3 _ _ l1_4 _ _ l1_5 t237 t238 t239 t240 t243 t246 _ ?side1 ?side2 ?side3 ?side4 ?side5 ?side6 A25.out).mono ?_
    (case side1 => exact rCx8 (Kd.C_below HR1_3.out HB.out))
    (case side2 => exact HC1_3.out)
    (case side3 => exact rCx8 (Kd.C_below HR1_4.out HB.out))
    (case side4 => exact HC1_4.out)
    (case side5 => exact rCx8 (Kd.C_below HR1_5.out HB.out))
    (case side6 => exact HC1_5.out)
    rintro e w42 ⟨v241, v244, v247, rfl, ho0, ho1, ho2, hb⟩
    refine ⟨_, rfl, ?_⟩
    have n0_ := Aside0.mk (kp3x8 (rRx8 HO230.out) hb ho0 ho1 ho2)
    have n1_ := Aside0.mk (kp3x8 (rRx8 HO233.out) hb ho0 ho1 ho2)
    have n2_ := Aside0.mk (kp3x8 (rRx8 HO236.out) hb ho0 ho1 ho2)
    have n3_ := Aside0.mk (Kd.R_lower (Kd.R_new' (Kd.R_new' (Kd.R_new' ho0 (Kd.R_lt (rRx8 HO230.out))) (Kd.R_lt (rRx8 HO233.out))) (Kd.R_lt (rRx8 HO236.out))) (below_size (be2x8 HB.out GE221.out GE222.out)))
    have n4_ := Aside0.mk (Kd.R_lower (Kd.R_new' (Kd.R_new' (Kd.R_new' ho1 (Kd.R_lt (rRx8 HO230.out))) (Kd.R_lt (rRx8 HO233.out))) (Kd.R_lt (rRx8 HO236.out))) (below_size (be2x8 HB.out GE221.out GE222.out)))
    have n5_ := Aside0.mk (Kd.R_lower (Kd.R_new' (Kd.R_new' (Kd.R_new' ho2 (Kd.R_lt (rRx8 HO230.out))) (Kd.R_lt (rRx8 HO233.out))) (Kd.R_lt (rRx8 HO236.out))) (below_size (be2x8 HB.out GE221.out GE222.out)))
    have n6_ := Aside0.mk (blk_below (g := gb221) (o := .cells #[.int .i64 a0_0, .int .i64 a0_1, .int .i64 a0_2, .slice A0_3 l0_3.length c0_3, .slice A0_4 l0_4.length c0_4, .slice A0_5 l0_5.length c0_5] 26 (0, 0)) (rBx8 BK221.out) hb)
    have n7_ := Aside0.mk (blk_below (g := gb222) (o := .cells #[.int .i64 a1_0, .int .i64 a1_1, .int .i64 a1_2, .slice A1_3 l1_3.length c1_3, .slice A1_4 l1_4.length c1_4, .slice A1_5 l1_5.length c1_5] 26 (0, 0)) (rBx8 BK222.out) hb)
    have n8_ := Aside0.mk (below_step (be2x8 HB.out GE221.out GE222.out) hb)
    clear HO230
    clear HO233
    clear HO236
    clear BK221
    clear BK222
    clear HB
    have HO230 := n0_
    have HO233 := n1_
    have HO236 := n2_
    have HO242 := n3_
    have HO245 := n4_
    have HO248 := n5_
    have BK221 := n6_
    have BK222 := n7_
    have HB := n8_
    clear n0_ n1_ n2_ n3_ n4_ n5_ n6_ n7_ n8_
    (try clear hb)
    (try clear hb2)
    (try clear hk)
    (try clear hi)
    (try clear ho0)
    (try clear ho1)
    (try clear ho2)
    refine hK.out _ _ (ca6x8 BK221.out (cc6x8 BK222.out)) (fun hHeld => ?_)
    clear hK K
    refine norm_ (a' := ?_) ?_ ?_
    rotate_left
    ·show Act.put _ (some 36) _ = _
     simp only [Act.put, List.setIfInBounds_toArray, List.set_cons_zero, List.set_cons_succ, i64_w, i32_w]
     rfl
    refine one_ (i := 5) (N := some 38) #[true, true, true, true, true, true, true, false, false, false, false, false, false, false, false] rfl rfl (one_of HT_.out (by kernel_rfl)) (by decide) (fun K hK => ?_)
    refine goes_ Try.func46 (by kernel_rfl) rfl #[.slice A2 l2.length c2] (by rfl) rfl rfl mpx8 ?_
    with_reducible refine (laws_toIntS.calls k _ _ l2 t249 _ ?side1 ?side2 A26.out).mono ?_
    (case side1 => exact rCx8 (Kd.C_below HR2.out HB.out))
    (case side2 => exact HC2.out)
    rintro e w43 ⟨v250, rfl, ho0, hb⟩
    refine ⟨_, rfl, ?_⟩
    have n0_ := Aside0.mk (Kd.R_elder' (rRx8 HO230.out) (Kd.R_base ho0) hb)
    have n1_ := Aside0.mk (Kd.R_elder' (rRx8 HO233.out) (Kd.R_base ho0) hb)
    have n2_ := Aside0.mk (Kd.R_elder' (rRx8 HO236.out) (Kd.R_base ho0) hb)
    have n3_ := Aside0.mk (Kd.R_elder' (rRx8 HO242.out) (Kd.R_base ho0) hb)
    have n4_ := Aside0.mk (Kd.R_elder' (rRx8 HO245.out) (Kd.R_base ho0) hb)
    have n5_ := Aside0.mk (Kd.R_elder' (rRx8 HO248.out) (Kd.R_base ho0) hb)
    have n6_ := Aside0.mk (Kd.R_lower (Kd.R_new' (Kd.R_new' (Kd.R_new' (Kd.R_new' (Kd.R_new' (Kd.R_new' ho0 (Kd.R_lt (rRx8 HO230.out))) (Kd.R_lt (rRx8 HO233.out))) (Kd.R_lt (rRx8 HO236.out))) (Kd.R_lt (rRx8 HO242.out))) (Kd.R_lt (rRx8 HO245.out))) (Kd.R_lt (rRx8 HO248.out))) (below_size (be2x8 HB.out GE221.out GE222.out)))
    have n7_ := Aside0.mk (blk_below (g := gb221) (o := .cells #[.int .i64 a0_0, .int .i64 a0_1, .int .i64 a0_2, .slice A0_3 l0_3.length c0_3, .slice A0_4 l0_4.length c0_4, .slice A0_5 l0_5.length c0_5] 26 (0, 0)) (rBx8 BK221.out) hb)
    have n8_ := Aside0.mk (blk_below (g := gb222) (o := .cells #[.int .i64 a1_0, .int .i64 a1_1, .int .i64 a1_2, .slice A1_3 l1_3.length c1_3, .slice A1_4 l1_4.length c1_4, .slice A1_5 l1_5.length c1_5] 26 (0, 0)) (rBx8 BK222.out) hb)
    have n9_ := Aside0.mk (below_step (be2x8 HB.out GE221.out GE222.out) hb)
    clear HO230
    clear HO233
    clear HO236
    clear HO242
    clear HO245
    clear HO248
    clear BK221
    clear BK222
    clear HB
    have HO230 := n0_
    have HO233 := n1_
    have HO236 := n2_
    have HO242 := n3_
    have HO245 := n4_
    have HO248 := n5_
    have HO251 := n6_
    have BK221 := n7_
    have BK222 := n8_
    have HB := n9_
    clear n0_ n1_ n2_ n3_ n4_ n5_ n6_ n7_ n8_ n9_
    (try clear hb)
    (try clear hb2)
    (try clear hk)
    (try clear hi)
    (try clear ho0)
    obtain ⟨Ao44, co44, eo44⟩ := Kd.R_slice HO230.out
    (first | subst eo44 | (injection eo44 with f1_ f2_ f3_; have f4_ := f1_.symm; have f5_ := f3_.symm; clear f1_ f2_ f3_; subst f4_; subst f5_))
    obtain ⟨Ao45, co45, eo45⟩ := Kd.R_slice HO233.out
    (first | subst eo45 | (injection eo45 with f1_ f2_ f3_; have f4_ := f1_.symm; have f5_ := f3_.symm; clear f1_ f2_ f3_; subst f4_; subst f5_))
    obtain ⟨Ao46, co46, eo46⟩ := Kd.R_slice HO236.out
    (first | subst eo46 | (injection eo46 with f1_ f2_ f3_; have f4_ := f1_.symm; have f5_ := f3_.symm; clear f1_ f2_ f3_; subst f4_; subst f5_))
    obtain ⟨Ao47, co47, eo47⟩ := Kd.R_slice HO242.out
    (first | subst eo47 | (injection eo47 with f1_ f2_ f3_; have f4_ := f1_.symm; have f5_ := f3_.symm; clear f1_ f2_ f3_; subst f4_; subst f5_))
    obtain ⟨Ao48, co48, eo48⟩ := Kd.R_slice HO245.out
    (first | subst eo48 | (injection eo48 with f1_ f2_ f3_; have f4_ := f1_.symm; have f5_ := f3_.symm; clear f1_ f2_ f3_; subst f4_; subst f5_))
    obtain ⟨Ao49, co49, eo49⟩ := Kd.R_slice HO248.out
    (first | subst eo49 | (injection eo49 with f1_ f2_ f3_; have f4_ := f1_.symm; have f5_ := f3_.symm; clear f1_ f2_ f3_; subst f4_; subst f5_))
    obtain ⟨Ao50, co50, eo50⟩ := Kd.R_slice HO251.out
    (first | subst eo50 | (injection eo50 with f1_ f2_ f3_; have f4_ := f1_.symm; have f5_ := f3_.symm; clear f1_ f2_ f3_; subst f4_; subst f5_))
    refine hK.out _ _ (ca6x8 BK221.out (cc6x8 BK222.out)) (fun hHeld => ?_)
    clear hK K
    refine norm_ (a' := ?_) ?_ ?_
    rotate_left
    ·show Act.put _ (some 38) _ = _
     simp only [Act.put, List.setIfInBounds_toArray, List.set_cons_zero, List.set_cons_succ, i64_w, i32_w]
     rfl
    refine one_ (i := 7) (N := some 40) #[true, true, true, true, true, true, true, true, false, false, false, false, false, false, false] rfl rfl (one_of HT_.out (by kernel_rfl)) (by decide) (fun K hK => ?_)
    refine goes_ Try.func45 (by kernel_rfl) rfl #[.agg #[.int .i64 t225, .int .i64 t226, .int .i64 t227, .slice Ao44 t228.length co44, .slice Ao45 t231.length co45, .slice Ao46 t234.length co46], .agg #[.int .i64 t237, .int .i64 t238, .int .i64 t239, .slice Ao47 t240.length co47, .slice Ao48 t243.length co48, .slice Ao49 t246.length co49], .slice Ao50 t249.length co50, .int .i64 a3] (by rfl) rfl rfl mpx8 ?_
    with_reducible refine (spec_FactorOf.calls k t225 t226 t227 _ _ t228 _ _ t231 _ _ t234 t237 t238 t239 _ _ t240 _ _ t243 _ _ t246 _ _ t249 a3 t252 t253 t254 _ ?side1 ?side2 ?side3 ?side4 ?side5 ?side6 ?side7 ?side8 ?side9 ?side10 ?side11 ?side12 ?side13 ?side14 A27.out).mono ?_
    (case side1 => exact cRx8 HO230.out)
    (case side2 => exact (Kd.R_reads' HO230.out).2.1)
    (case side3 => exact cRx8 HO233.out)
    (case side4 => exact (Kd.R_reads' HO233.out).2.1)
    (case side5 => exact cRx8 HO236.out)
    (case side6 => exact (Kd.R_reads' HO236.out).2.1)
    (case side7 => exact cRx8 HO242.out)
    (case side8 => exact (Kd.R_reads' HO242.out).2.1)
    (case side9 => exact cRx8 HO245.out)
    (case side10 => exact (Kd.R_reads' HO245.out).2.1)
    (case side11 => exact cRx8 HO248.out)
    (case side12 => exact (Kd.R_reads' HO248.out).2.1)
    (case side13 => exact cRx8 HO251.out)
    (case side14 => exact (Kd.R_reads' HO251.out).2.1)
    rintro e w51 ⟨rfl, hb⟩
    refine ⟨_, rfl, ?_⟩
    have n0_ := Aside0.mk (Kd.R_below (rRx8 HO230.out) hb)
    have n1_ := Aside0.mk (Kd.R_below (rRx8 HO233.out) hb)
    have n2_ := Aside0.mk (Kd.R_below (rRx8 HO236.out) hb)
    have n3_ := Aside0.mk (Kd.R_below (rRx8 HO242.out) hb)
    have n4_ := Aside0.mk (Kd.R_below (rRx8 HO245.out) hb)
    have n5_ := Aside0.mk (Kd.R_below (rRx8 HO248.out) hb)
    have n6_ := Aside0.mk (Kd.R_below (rRx8 HO251.out) hb)
    have n7_ := Aside0.mk (blk_below (g := gb221) (o := .cells #[.int .i64 a0_0, .int .i64 a0_1, .int .i64 a0_2, .slice A0_3 l0_3.length c0_3, .slice A0_4 l0_4.length c0_4, .slice A0_5 l0_5.length c0_5] 26 (0, 0)) (rBx8 BK221.out) hb)
    have n8_ := Aside0.mk (blk_below (g := gb222) (o := .cells #[.int .i64 a1_0, .int .i64 a1_1, .int .i64 a1_2, .slice A1_3 l1_3.length c1_3, .slice A1_4 l1_4.length c1_4, .slice A1_5 l1_5.length c1_5] 26 (0, 0)) (rBx8 BK222.out) hb)
    have n9_ := Aside0.mk (below_step (be2x8 HB.out GE221.out GE222.out) hb)
    clear HO230
    clear HO233
    clear HO236
    clear HO242
    clear HO245
    clear HO248
    clear HO251
    clear BK221
    clear BK222
    clear HB
    have HO230 := n0_
    have HO233 := n1_
    have HO236 := n2_
    have HO242 := n3_
    have HO245 := n4_
    have HO248 := n5_
    have HO251 := n6_
    have BK221 := n7_
    have BK222 := n8_
    have HB := n9_
    clear n0_ n1_ n2_ n3_ n4_ n5_ n6_ n7_ n8_ n9_
    (try clear hb)
    (try clear hb2)
    (try clear hk)
    (try clear hi)
    refine hK.out _ _ (ca6x8 BK221.out (cc6x8 BK222.out)) (fun hHeld => ?_)
    clear hK K
    refine norm_ (a' := ?_) ?_ ?_
    rotate_left
    ·show Act.put _ (some 40) _ = _
     simp only [Act.put, List.setIfInBounds_toArray, List.set_cons_zero, List.set_cons_succ, i64_w, i32_w]
     rfl
    refine pure_ (i := 8) (N := some 32) (v := ?_) (a' := ?_) #[true, true, true, true, true, true, true, true, true, false, false, false, false, false, false] rfl rfl (any_of HT_.out (by kernel_rfl)) (fun _ _ _ h => h) (Or.inl ⟨by rfl, ?_⟩) ?_ ?_
    rotate_left
    ·intro w'
     go_simp
     with_reducible rfl
    rotate_left
    ·simp only [Act.put, List.setIfInBounds_toArray, List.set_cons_zero, List.set_cons_succ, i64_w, i32_w]
     rfl
    refine pure_ (i := 9) (N := some 41) (v := ?_) (a' := ?_) #[true, true, true, true, true, true, true, true, true, true, false, false, false, false, false] rfl rfl (any_of HT_.out (by kernel_rfl)) (fun _ _ _ h => h) (Or.inl ⟨by rfl, ?_⟩) ?_ ?_
    rotate_left
    ·intro w'
     go_simp
     with_reducible rfl
    rotate_left
    ·simp only [Act.put, List.setIfInBounds_toArray, List.set_cons_zero, List.set_cons_succ, i64_w, i32_w]
     rfl
    refine pure_ (i := 10) (N := some 42) (v := ?_) (a' := ?_) #[true, true, true, true, true, true, true, true, true, true, true, false, false, false, false] rfl rfl (any_of HT_.out (by kernel_rfl)) (fun _ _ _ h => h) (Or.inl ⟨by rfl, ?_⟩) ?_ ?_
    rotate_left
    ·intro w'
     go_simp
     with_reducible rfl
    rotate_left
    ·simp only [Act.put, List.setIfInBounds_toArray, List.set_cons_zero, List.set_cons_succ, i64_w, i32_w]
     rfl
    refine pure_ (i := 11) (N := some 43) (v := ?_) (a' := ?_) #[true, true, true, true, true, true, true, true, true, true, true, true, false, false, false] rfl rfl (any_of HT_.out (by kernel_rfl)) (fun _ _ _ h => h) (Or.inl ⟨by rfl, ?_⟩) ?_ ?_
    rotate_left
    ·intro w'
     go_simp
     with_reducible rfl
    rotate_left
    ·simp only [Act.put, List.setIfInBounds_toArray, List.set_cons_zero, List.set_cons_succ, i64_w, i32_w]
     rfl
    refine pure_ (i := 12) (N := some 10) (v := ?_) (a' := ?_) #[true, true, true, true, true, true, true, true, true, true, true, true, true, false, false] rfl rfl (any_of HT_.out (by kernel_rfl)) (fun _ _ _ h => h) (Or.inl ⟨by rfl, ?_⟩) ?_ ?_
    rotate_left
    ·intro w'
     go_simp
     with_reducible rfl
    rotate_left
    ·simp only [Act.put, List.setIfInBounds_toArray, List.set_cons_zero, List.set_cons_succ, i64_w, i32_w]
     rfl
    refine pure_ (i := 13) (N := some 11) (v := ?_) (a' := ?_) #[true, true, true, true, true, true, true, true, true, true, true, true, true, true, false] rfl rfl (any_of HT_.out (by kernel_rfl)) (fun _ _ _ h => h) (Or.inl ⟨by rfl, ?_⟩) ?_ ?_
    rotate_left
    ·intro w'
     go_simp
     with_reducible rfl
    rotate_left
    ·simp only [Act.put, List.setIfInBounds_toArray, List.set_cons_zero, List.set_cons_succ, i64_w, i32_w]
     rfl
    refine pure_ (i := 14) (N := some 12) (v := ?_) (a' := ?_) #[true, true, true, true, true, true, true, true, true, true, true, true, true, true, true] rfl rfl (any_of HT_.out (by kernel_rfl)) (fun _ _ _ h => h) (Or.inl ⟨by rfl, ?_⟩) ?_ ?_
    rotate_left
    ·intro w'
     go_simp
     with_reducible rfl
    rotate_left
    ·simp only [Act.put, List.setIfInBounds_toArray, List.set_cons_zero, List.set_cons_succ, i64_w, i32_w]
     rfl
    refine done_ (done_of HT_.out (by kernel_rfl)) ?_
    obtain ⟨hcz52_0, hcz52_1, hcz52_2, hcz52_3, hcz52_4, hcz52_5, hfz52_0, hfz52_1, hfz52_2, hfz52_3, hfz52_4, hfz52_5⟩ := cf6x8 BK221.out
    go_upto_region 15 with (first | ((with_reducible refine gate_callee (f := 19) rfl ?_); refine goesL_ (some 45) rfl rfl Try.func19 (by kernel_rfl) rfl #[.agg #[.int .i64 a0_0, .int .i64 a0_1, .int .i64 a0_2, .slice A0_3 l0_3.length c0_3, .slice A0_4 l0_4.length c0_4, .slice A0_5 l0_5.length c0_5]] rfl mpx8 ?_; (with_reducible refine (laws_toModel.calls k a0_0 a0_1 a0_2 _ _ l0_3 _ _ l0_4 _ _ l0_5 t255 t256 t257 t258 t261 t264 _ ?side1 ?side2 ?side3 ?side4 ?side5 ?side6 A28.out).mono ?_); (case side1 => exact rCx8 (Kd.C_below HR0_3.out HB.out)); (case side2 => exact HC0_3.out); (case side3 => exact rCx8 (Kd.C_below HR0_4.out HB.out)); (case side4 => exact HC0_4.out); (case side5 => exact rCx8 (Kd.C_below HR0_5.out HB.out)); (case side6 => exact HC0_5.out); rintro e w53 ⟨v259, v262, v265, rfl, ho0, ho1, ho2, hb⟩; refine ⟨_, rfl, ?_⟩; have HO260 := Aside0.mk (Kd.R_lower (Kd.R_new' (Kd.R_new' (Kd.R_new' (Kd.R_new' (Kd.R_new' (Kd.R_new' (Kd.R_new' ho0 (Kd.R_lt (rRx8 HO230.out))) (Kd.R_lt (rRx8 HO233.out))) (Kd.R_lt (rRx8 HO236.out))) (Kd.R_lt (rRx8 HO242.out))) (Kd.R_lt (rRx8 HO245.out))) (Kd.R_lt (rRx8 HO248.out))) (Kd.R_lt (rRx8 HO251.out))) (below_size (be2x8 HB.out GE221.out GE222.out))); have HO263 := Aside0.mk (Kd.R_lower (Kd.R_new' (Kd.R_new' (Kd.R_new' (Kd.R_new' (Kd.R_new' (Kd.R_new' (Kd.R_new' ho1 (Kd.R_lt (rRx8 HO230.out))) (Kd.R_lt (rRx8 HO233.out))) (Kd.R_lt (rRx8 HO236.out))) (Kd.R_lt (rRx8 HO242.out))) (Kd.R_lt (rRx8 HO245.out))) (Kd.R_lt (rRx8 HO248.out))) (Kd.R_lt (rRx8 HO251.out))) (below_size (be2x8 HB.out GE221.out GE222.out))); have HO266 := Aside0.mk (Kd.R_lower (Kd.R_new' (Kd.R_new' (Kd.R_new' (Kd.R_new' (Kd.R_new' (Kd.R_new' (Kd.R_new' ho2 (Kd.R_lt (rRx8 HO230.out))) (Kd.R_lt (rRx8 HO233.out))) (Kd.R_lt (rRx8 HO236.out))) (Kd.R_lt (rRx8 HO242.out))) (Kd.R_lt (rRx8 HO245.out))) (Kd.R_lt (rRx8 HO248.out))) (Kd.R_lt (rRx8 HO251.out))) (below_size (be2x8 HB.out GE221.out GE222.out))); replace HO230 := Aside0.mk (kp3x8 (rRx8 HO230.out) hb ho0 ho1 ho2); replace HO233 := Aside0.mk (kp3x8 (rRx8 HO233.out) hb ho0 ho1 ho2); replace HO236 := Aside0.mk (kp3x8 (rRx8 HO236.out) hb ho0 ho1 ho2); replace HO242 := Aside0.mk (kp3x8 (rRx8 HO242.out) hb ho0 ho1 ho2); replace HO245 := Aside0.mk (kp3x8 (rRx8 HO245.out) hb ho0 ho1 ho2); replace HO248 := Aside0.mk (kp3x8 (rRx8 HO248.out) hb ho0 ho1 ho2); replace HO251 := Aside0.mk (kp3x8 (rRx8 HO251.out) hb ho0 ho1 ho2); replace BK221 := Aside0.mk (blk_below (g := gb221) (o := .cells #[.int .i64 a0_0, .int .i64 a0_1, .int .i64 a0_2, .slice A0_3 l0_3.length c0_3, .slice A0_4 l0_4.length c0_4, .slice A0_5 l0_5.length c0_5] 26 (0, 0)) (rBx8 BK221.out) hb); replace BK222 := Aside0.mk (blk_below (g := gb222) (o := .cells #[.int .i64 a1_0, .int .i64 a1_1, .int .i64 a1_2, .slice A1_3 l1_3.length c1_3, .slice A1_4 l1_4.length c1_4, .slice A1_5 l1_5.length c1_5] 26 (0, 0)) (rBx8 BK222.out) hb); replace HB := Aside0.mk (below_step (be2x8 HB.out GE221.out GE222.out) hb); (try clear hb); (try clear hb2); (try clear hk); (try clear hi); (try clear ho0); (try clear ho1); (try clear ho2)) | ((with_reducible refine gate_dst (N := 13) rfl ?_); refine box_event ?hg (N := 13) ?hd (cs := #[.int .i64 0, .int .i64 0, .int .i64 0, .slice none 0 0, .slice none 0 0, .slice none 0 0]) (t := 41) ?hr ?_; (case hd => rfl); (case hg => rfl); (case hr => first | (go_simp; done) | (go_simp; rfl)); intro gb267 hg w54 hbox hb; replace HO230 := Aside0.mk (Kd.R_below (rRx8 HO230.out) hb); replace HO233 := Aside0.mk (Kd.R_below (rRx8 HO233.out) hb); replace HO236 := Aside0.mk (Kd.R_below (rRx8 HO236.out) hb); replace HO242 := Aside0.mk (Kd.R_below (rRx8 HO242.out) hb); replace HO245 := Aside0.mk (Kd.R_below (rRx8 HO245.out) hb); replace HO248 := Aside0.mk (Kd.R_below (rRx8 HO248.out) hb); replace HO251 := Aside0.mk (Kd.R_below (rRx8 HO251.out) hb); replace HO260 := Aside0.mk (Kd.R_below (rRx8 HO260.out) hb); replace HO263 := Aside0.mk (Kd.R_below (rRx8 HO263.out) hb); replace HO266 := Aside0.mk (Kd.R_below (rRx8 HO266.out) hb); have BK267 := Aside0.mk (hbox); have GW267 := Aside0.mk ((by rw [hg]; exact (below_size (be2x8 HB.out GE221.out GE222.out)) : w.heap.size ≤ gb267)); have GE267 := Aside0.mk ((by rw [hg]; exact (below_size (be2x8 HB.out GE221.out GE222.out)) : w.heap.size ≤ gb267)); replace HB := Aside0.mk (below_step (be2x8 HB.out GE221.out GE222.out) hb); have NB221_267 := Aside0.mk ((by rw [hg]; exact Nat.ne_of_lt (blk_lt (g := gb221) (o := .cells #[.int .i64 a0_0, .int .i64 a0_1, .int .i64 a0_2, .slice A0_3 l0_3.length c0_3, .slice A0_4 l0_4.length c0_4, .slice A0_5 l0_5.length c0_5] 26 (0, 0)) (rBx8 BK221.out)) : gb221 ≠ gb267)); have NB267_221 := Aside0.mk ((by rw [hg]; exact Nat.ne_of_gt (blk_lt (g := gb221) (o := .cells #[.int .i64 a0_0, .int .i64 a0_1, .int .i64 a0_2, .slice A0_3 l0_3.length c0_3, .slice A0_4 l0_4.length c0_4, .slice A0_5 l0_5.length c0_5] 26 (0, 0)) (rBx8 BK221.out)) : gb267 ≠ gb221)); replace BK221 := Aside0.mk (blk_below (g := gb221) (o := .cells #[.int .i64 a0_0, .int .i64 a0_1, .int .i64 a0_2, .slice A0_3 l0_3.length c0_3, .slice A0_4 l0_4.length c0_4, .slice A0_5 l0_5.length c0_5] 26 (0, 0)) (rBx8 BK221.out) hb); have NB222_267 := Aside0.mk ((by rw [hg]; exact Nat.ne_of_lt (blk_lt (g := gb222) (o := .cells #[.int .i64 a1_0, .int .i64 a1_1, .int .i64 a1_2, .slice A1_3 l1_3.length c1_3, .slice A1_4 l1_4.length c1_4, .slice A1_5 l1_5.length c1_5] 26 (0, 0)) (rBx8 BK222.out)) : gb222 ≠ gb267)); have NB267_222 := Aside0.mk ((by rw [hg]; exact Nat.ne_of_gt (blk_lt (g := gb222) (o := .cells #[.int .i64 a1_0, .int .i64 a1_1, .int .i64 a1_2, .slice A1_3 l1_3.length c1_3, .slice A1_4 l1_4.length c1_4, .slice A1_5 l1_5.length c1_5] 26 (0, 0)) (rBx8 BK222.out)) : gb267 ≠ gb222)); replace BK222 := Aside0.mk (blk_below (g := gb222) (o := .cells #[.int .i64 a1_0, .int .i64 a1_1, .int .i64 a1_2, .slice A1_3 l1_3.length c1_3, .slice A1_4 l1_4.length c1_4, .slice A1_5 l1_5.length c1_5] 26 (0, 0)) (rBx8 BK222.out) hb); clear hb hbox hg; have hnb55 := NB267_221.out; have hnc55 := NB221_267.out; have hnb56 := NB267_222.out; have hnc56 := NB222_267.out; obtain ⟨hcz57_0, hcz57_1, hcz57_2, hcz57_3, hcz57_4, hcz57_5, hfz57_0, hfz57_1, hfz57_2, hfz57_3, hfz57_4, hfz57_5⟩ := cf6x8 BK267.out; obtain ⟨Ao58, co58, eo58⟩ := Kd.R_slice HO260.out; subst eo58; obtain ⟨Ao59, co59, eo59⟩ := Kd.R_slice HO263.out; subst eo59; obtain ⟨Ao60, co60, eo60⟩ := Kd.R_slice HO266.out; subst eo60; obtain ⟨hcz61_0, hcz61_1, hcz61_2, hcz61_3, hcz61_4, hcz61_5, hfz61_0, hfz61_1, hfz61_2, hfz61_3, hfz61_4, hfz61_5⟩ := cf6x8 BK222.out) | ((with_reducible refine gate_callee (f := 19) rfl ?_); refine goesL_ (some 47) rfl rfl Try.func19 (by kernel_rfl) rfl #[.agg #[.int .i64 a1_0, .int .i64 a1_1, .int .i64 a1_2, .slice A1_3 l1_3.length c1_3, .slice A1_4 l1_4.length c1_4, .slice A1_5 l1_5.length c1_5]] rfl mpx8 ?_; (with_reducible refine (laws_toModel.calls k a1_0 a1_1 a1_2 _ _ l1_3 _ _ l1_4 _ _ l1_5 t268 t269 t270 t271 t274 t277 _ ?side1 ?side2 ?side3 ?side4 ?side5 ?side6 A29.out).mono ?_); (case side1 => exact Kd.C_below HR1_3.out (be3x8 HB.out GE221.out GE222.out GE267.out)); (case side2 => exact HC1_3.out); (case side3 => exact Kd.C_below HR1_4.out (be3x8 HB.out GE221.out GE222.out GE267.out)); (case side4 => exact HC1_4.out); (case side5 => exact Kd.C_below HR1_5.out (be3x8 HB.out GE221.out GE222.out GE267.out)); (case side6 => exact HC1_5.out); rintro e w62 ⟨v272, v275, v278, rfl, ho0, ho1, ho2, hb⟩; refine ⟨_, rfl, ?_⟩; have HO273 := Aside0.mk (Kd.R_lower (Kd.R_new' (Kd.R_new' (Kd.R_new' (Kd.R_new' (Kd.R_new' (Kd.R_new' (Kd.R_new' (Kd.R_new' (Kd.R_new' (Kd.R_new' ho0 (Kd.R_lt (sR6x8 HO230.out BK267.out))) (Kd.R_lt (sR6x8 HO233.out BK267.out))) (Kd.R_lt (sR6x8 HO236.out BK267.out))) (Kd.R_lt (sR6x8 HO242.out BK267.out))) (Kd.R_lt (sR6x8 HO245.out BK267.out))) (Kd.R_lt (sR6x8 HO248.out BK267.out))) (Kd.R_lt (sR6x8 HO251.out BK267.out))) (Kd.R_lt (sR6x8 HO260.out BK267.out))) (Kd.R_lt (sR6x8 HO263.out BK267.out))) (Kd.R_lt (sR6x8 HO266.out BK267.out))) (below_size (be3x8 HB.out GE221.out GE222.out GE267.out))); have HO276 := Aside0.mk (Kd.R_lower (Kd.R_new' (Kd.R_new' (Kd.R_new' (Kd.R_new' (Kd.R_new' (Kd.R_new' (Kd.R_new' (Kd.R_new' (Kd.R_new' (Kd.R_new' ho1 (Kd.R_lt (sR6x8 HO230.out BK267.out))) (Kd.R_lt (sR6x8 HO233.out BK267.out))) (Kd.R_lt (sR6x8 HO236.out BK267.out))) (Kd.R_lt (sR6x8 HO242.out BK267.out))) (Kd.R_lt (sR6x8 HO245.out BK267.out))) (Kd.R_lt (sR6x8 HO248.out BK267.out))) (Kd.R_lt (sR6x8 HO251.out BK267.out))) (Kd.R_lt (sR6x8 HO260.out BK267.out))) (Kd.R_lt (sR6x8 HO263.out BK267.out))) (Kd.R_lt (sR6x8 HO266.out BK267.out))) (below_size (be3x8 HB.out GE221.out GE222.out GE267.out))); have HO279 := Aside0.mk (Kd.R_lower (Kd.R_new' (Kd.R_new' (Kd.R_new' (Kd.R_new' (Kd.R_new' (Kd.R_new' (Kd.R_new' (Kd.R_new' (Kd.R_new' (Kd.R_new' ho2 (Kd.R_lt (sR6x8 HO230.out BK267.out))) (Kd.R_lt (sR6x8 HO233.out BK267.out))) (Kd.R_lt (sR6x8 HO236.out BK267.out))) (Kd.R_lt (sR6x8 HO242.out BK267.out))) (Kd.R_lt (sR6x8 HO245.out BK267.out))) (Kd.R_lt (sR6x8 HO248.out BK267.out))) (Kd.R_lt (sR6x8 HO251.out BK267.out))) (Kd.R_lt (sR6x8 HO260.out BK267.out))) (Kd.R_lt (sR6x8 HO263.out BK267.out))) (Kd.R_lt (sR6x8 HO266.out BK267.out))) (below_size (be3x8 HB.out GE221.out GE222.out GE267.out))); replace HO230 := Aside0.mk (kp3x8 (sR6x8 HO230.out BK267.out) hb ho0 ho1 ho2); replace HO233 := Aside0.mk (kp3x8 (sR6x8 HO233.out BK267.out) hb ho0 ho1 ho2); replace HO236 := Aside0.mk (kp3x8 (sR6x8 HO236.out BK267.out) hb ho0 ho1 ho2); replace HO242 := Aside0.mk (kp3x8 (sR6x8 HO242.out BK267.out) hb ho0 ho1 ho2); replace HO245 := Aside0.mk (kp3x8 (sR6x8 HO245.out BK267.out) hb ho0 ho1 ho2); replace HO248 := Aside0.mk (kp3x8 (sR6x8 HO248.out BK267.out) hb ho0 ho1 ho2); replace HO251 := Aside0.mk (kp3x8 (sR6x8 HO251.out BK267.out) hb ho0 ho1 ho2); replace HO260 := Aside0.mk (kp3x8 (sR6x8 HO260.out BK267.out) hb ho0 ho1 ho2); replace HO263 := Aside0.mk (kp3x8 (sR6x8 HO263.out BK267.out) hb ho0 ho1 ho2); replace HO266 := Aside0.mk (kp3x8 (sR6x8 HO266.out BK267.out) hb ho0 ho1 ho2); replace BK221 := Aside0.mk (blk_below (g := gb221) (o := .cells #[.int .i64 a0_0, .int .i64 a0_1, .int .i64 a0_2, .slice A0_3 l0_3.length c0_3, .slice A0_4 l0_4.length c0_4, .slice A0_5 l0_5.length c0_5] 26 (0, 0)) (bb6x8 BK221.out NB221_267.out) hb); replace BK222 := Aside0.mk (blk_below (g := gb222) (o := .cells #[.int .i64 a1_0, .int .i64 a1_1, .int .i64 a1_2, .slice A1_3 l1_3.length c1_3, .slice A1_4 l1_4.length c1_4, .slice A1_5 l1_5.length c1_5] 26 (0, 0)) (bb6x8 BK222.out NB222_267.out) hb); replace BK267 := Aside0.mk (blk_below (g := gb267) (o := .cells #[.int .i64 t255, .int .i64 t256, .int .i64 t257, .slice Ao58 t258.length co58, .slice Ao59 t261.length co59, .slice Ao60 t264.length co60] 41 (0, 0)) (by (with_reducible repeat (first | refine blk_drewN ?_ _ | refine blk_drew ?_ | refine blk_alloc ?_ _)); refine blk_put (cs := #[.int .i64 t255, .int .i64 t256, .int .i64 t257, .slice Ao58 t258.length co58, .slice Ao59 t261.length co59, .slice none 0 0]) ?_ 5 _ rfl; (with_reducible repeat (first | refine blk_drewN ?_ _ | refine blk_drew ?_ | refine blk_alloc ?_ _)); refine blk_put (cs := #[.int .i64 t255, .int .i64 t256, .int .i64 t257, .slice Ao58 t258.length co58, .slice none 0 0, .slice none 0 0]) ?_ 4 _ rfl; (with_reducible repeat (first | refine blk_drewN ?_ _ | refine blk_drew ?_ | refine blk_alloc ?_ _)); refine blk_put (cs := #[.int .i64 t255, .int .i64 t256, .int .i64 t257, .slice none 0 0, .slice none 0 0, .slice none 0 0]) ?_ 3 _ rfl; (with_reducible repeat (first | refine blk_drewN ?_ _ | refine blk_drew ?_ | refine blk_alloc ?_ _)); refine blk_put (cs := #[.int .i64 t255, .int .i64 t256, .int .i64 0, .slice none 0 0, .slice none 0 0, .slice none 0 0]) ?_ 2 _ rfl; (with_reducible repeat (first | refine blk_drewN ?_ _ | refine blk_drew ?_ | refine blk_alloc ?_ _)); refine blk_put (cs := #[.int .i64 t255, .int .i64 0, .int .i64 0, .slice none 0 0, .slice none 0 0, .slice none 0 0]) ?_ 1 _ rfl; (with_reducible repeat (first | refine blk_drewN ?_ _ | refine blk_drew ?_ | refine blk_alloc ?_ _)); refine blk_put (cs := #[.int .i64 0, .int .i64 0, .int .i64 0, .slice none 0 0, .slice none 0 0, .slice none 0 0]) ?_ 0 _ rfl; (with_reducible repeat (first | refine blk_drewN ?_ _ | refine blk_drew ?_ | refine blk_alloc ?_ _)); exact BK267.out) hb); replace HB := Aside0.mk (below_step (be3x8 HB.out GE221.out GE222.out GE267.out) hb); (try clear hb); (try clear hb2); (try clear hk); (try clear hi); (try clear ho0); (try clear ho1); (try clear ho2)) | ((with_reducible refine gate_dst (N := 14) rfl ?_); refine box_event ?hg (N := 14) ?hd (cs := #[.int .i64 0, .int .i64 0, .int .i64 0, .slice none 0 0, .slice none 0 0, .slice none 0 0]) (t := 41) ?hr ?_; (case hd => rfl); (case hg => rfl); (case hr => first | (go_simp; done) | (go_simp; rfl)); intro gb280 hg w63 hbox hb; replace HO230 := Aside0.mk (Kd.R_below (rRx8 HO230.out) hb); replace HO233 := Aside0.mk (Kd.R_below (rRx8 HO233.out) hb); replace HO236 := Aside0.mk (Kd.R_below (rRx8 HO236.out) hb); replace HO242 := Aside0.mk (Kd.R_below (rRx8 HO242.out) hb); replace HO245 := Aside0.mk (Kd.R_below (rRx8 HO245.out) hb); replace HO248 := Aside0.mk (Kd.R_below (rRx8 HO248.out) hb); replace HO251 := Aside0.mk (Kd.R_below (rRx8 HO251.out) hb); replace HO260 := Aside0.mk (Kd.R_below (rRx8 HO260.out) hb); replace HO263 := Aside0.mk (Kd.R_below (rRx8 HO263.out) hb); replace HO266 := Aside0.mk (Kd.R_below (rRx8 HO266.out) hb); replace HO273 := Aside0.mk (Kd.R_below (rRx8 HO273.out) hb); replace HO276 := Aside0.mk (Kd.R_below (rRx8 HO276.out) hb); replace HO279 := Aside0.mk (Kd.R_below (rRx8 HO279.out) hb); have BK280 := Aside0.mk (hbox); have GW280 := Aside0.mk ((by rw [hg]; exact (below_size (be3x8 HB.out GE221.out GE222.out GE267.out)) : w.heap.size ≤ gb280)); have GE280 := Aside0.mk ((by rw [hg]; exact (below_size (be3x8 HB.out GE221.out GE222.out GE267.out)) : w.heap.size ≤ gb280)); replace HB := Aside0.mk (below_step (be3x8 HB.out GE221.out GE222.out GE267.out) hb); have NB221_280 := Aside0.mk ((by rw [hg]; exact Nat.ne_of_lt (blk_lt (g := gb221) (o := .cells #[.int .i64 a0_0, .int .i64 a0_1, .int .i64 a0_2, .slice A0_3 l0_3.length c0_3, .slice A0_4 l0_4.length c0_4, .slice A0_5 l0_5.length c0_5] 26 (0, 0)) (rBx8 BK221.out)) : gb221 ≠ gb280)); have NB280_221 := Aside0.mk ((by rw [hg]; exact Nat.ne_of_gt (blk_lt (g := gb221) (o := .cells #[.int .i64 a0_0, .int .i64 a0_1, .int .i64 a0_2, .slice A0_3 l0_3.length c0_3, .slice A0_4 l0_4.length c0_4, .slice A0_5 l0_5.length c0_5] 26 (0, 0)) (rBx8 BK221.out)) : gb280 ≠ gb221)); replace BK221 := Aside0.mk (blk_below (g := gb221) (o := .cells #[.int .i64 a0_0, .int .i64 a0_1, .int .i64 a0_2, .slice A0_3 l0_3.length c0_3, .slice A0_4 l0_4.length c0_4, .slice A0_5 l0_5.length c0_5] 26 (0, 0)) (rBx8 BK221.out) hb); have NB222_280 := Aside0.mk ((by rw [hg]; exact Nat.ne_of_lt (blk_lt (g := gb222) (o := .cells #[.int .i64 a1_0, .int .i64 a1_1, .int .i64 a1_2, .slice A1_3 l1_3.length c1_3, .slice A1_4 l1_4.length c1_4, .slice A1_5 l1_5.length c1_5] 26 (0, 0)) (rBx8 BK222.out)) : gb222 ≠ gb280)); have NB280_222 := Aside0.mk ((by rw [hg]; exact Nat.ne_of_gt (blk_lt (g := gb222) (o := .cells #[.int .i64 a1_0, .int .i64 a1_1, .int .i64 a1_2, .slice A1_3 l1_3.length c1_3, .slice A1_4 l1_4.length c1_4, .slice A1_5 l1_5.length c1_5] 26 (0, 0)) (rBx8 BK222.out)) : gb280 ≠ gb222)); replace BK222 := Aside0.mk (blk_below (g := gb222) (o := .cells #[.int .i64 a1_0, .int .i64 a1_1, .int .i64 a1_2, .slice A1_3 l1_3.length c1_3, .slice A1_4 l1_4.length c1_4, .slice A1_5 l1_5.length c1_5] 26 (0, 0)) (rBx8 BK222.out) hb); have NB267_280 := Aside0.mk ((by rw [hg]; exact Nat.ne_of_lt (blk_lt (g := gb267) (o := .cells #[.int .i64 t255, .int .i64 t256, .int .i64 t257, .slice Ao58 t258.length co58, .slice Ao59 t261.length co59, .slice Ao60 t264.length co60] 41 (0, 0)) (rBx8 BK267.out)) : gb267 ≠ gb280)); have NB280_267 := Aside0.mk ((by rw [hg]; exact Nat.ne_of_gt (blk_lt (g := gb267) (o := .cells #[.int .i64 t255, .int .i64 t256, .int .i64 t257, .slice Ao58 t258.length co58, .slice Ao59 t261.length co59, .slice Ao60 t264.length co60] 41 (0, 0)) (rBx8 BK267.out)) : gb280 ≠ gb267)); replace BK267 := Aside0.mk (blk_below (g := gb267) (o := .cells #[.int .i64 t255, .int .i64 t256, .int .i64 t257, .slice Ao58 t258.length co58, .slice Ao59 t261.length co59, .slice Ao60 t264.length co60] 41 (0, 0)) (rBx8 BK267.out) hb); clear hb hbox hg; have hnb64 := NB280_221.out; have hnc64 := NB221_280.out; have hnb65 := NB280_222.out; have hnc65 := NB222_280.out; have hnb66 := NB280_267.out; have hnc66 := NB267_280.out; obtain ⟨hcz67_0, hcz67_1, hcz67_2, hcz67_3, hcz67_4, hcz67_5, hfz67_0, hfz67_1, hfz67_2, hfz67_3, hfz67_4, hfz67_5⟩ := cf6x8 BK280.out; obtain ⟨Ao68, co68, eo68⟩ := Kd.R_slice HO273.out; subst eo68; obtain ⟨Ao69, co69, eo69⟩ := Kd.R_slice HO276.out; subst eo69; obtain ⟨Ao70, co70, eo70⟩ := Kd.R_slice HO279.out; subst eo70) | ((with_reducible refine gate_callee (f := 46) rfl ?_); refine goesL_ (some 49) rfl rfl Try.func46 (by kernel_rfl) rfl #[.slice A2 l2.length c2] rfl mpx8 ?_; (with_reducible refine (laws_toIntS.calls k _ _ l2 t281 _ ?side1 ?side2 A30.out).mono ?_); (case side1 => exact Kd.C_below HR2.out (be4x8 HB.out GE221.out GE222.out GE267.out GE280.out)); (case side2 => exact HC2.out); rintro e w71 ⟨v282, rfl, ho0, hb⟩; refine ⟨_, rfl, ?_⟩; have HO283 := Aside0.mk (Kd.R_lower (Kd.R_new' (Kd.R_new' (Kd.R_new' (Kd.R_new' (Kd.R_new' (Kd.R_new' (Kd.R_new' (Kd.R_new' (Kd.R_new' (Kd.R_new' (Kd.R_new' (Kd.R_new' (Kd.R_new' ho0 (Kd.R_lt (sR6x8 HO230.out BK280.out))) (Kd.R_lt (sR6x8 HO233.out BK280.out))) (Kd.R_lt (sR6x8 HO236.out BK280.out))) (Kd.R_lt (sR6x8 HO242.out BK280.out))) (Kd.R_lt (sR6x8 HO245.out BK280.out))) (Kd.R_lt (sR6x8 HO248.out BK280.out))) (Kd.R_lt (sR6x8 HO251.out BK280.out))) (Kd.R_lt (sR6x8 HO260.out BK280.out))) (Kd.R_lt (sR6x8 HO263.out BK280.out))) (Kd.R_lt (sR6x8 HO266.out BK280.out))) (Kd.R_lt (sR6x8 HO273.out BK280.out))) (Kd.R_lt (sR6x8 HO276.out BK280.out))) (Kd.R_lt (sR6x8 HO279.out BK280.out))) (below_size (be4x8 HB.out GE221.out GE222.out GE267.out GE280.out))); replace HO230 := Aside0.mk (Kd.R_elder' (sR6x8 HO230.out BK280.out) (Kd.R_base ho0) hb); replace HO233 := Aside0.mk (Kd.R_elder' (sR6x8 HO233.out BK280.out) (Kd.R_base ho0) hb); replace HO236 := Aside0.mk (Kd.R_elder' (sR6x8 HO236.out BK280.out) (Kd.R_base ho0) hb); replace HO242 := Aside0.mk (Kd.R_elder' (sR6x8 HO242.out BK280.out) (Kd.R_base ho0) hb); replace HO245 := Aside0.mk (Kd.R_elder' (sR6x8 HO245.out BK280.out) (Kd.R_base ho0) hb); replace HO248 := Aside0.mk (Kd.R_elder' (sR6x8 HO248.out BK280.out) (Kd.R_base ho0) hb); replace HO251 := Aside0.mk (Kd.R_elder' (sR6x8 HO251.out BK280.out) (Kd.R_base ho0) hb); replace HO260 := Aside0.mk (Kd.R_elder' (sR6x8 HO260.out BK280.out) (Kd.R_base ho0) hb); replace HO263 := Aside0.mk (Kd.R_elder' (sR6x8 HO263.out BK280.out) (Kd.R_base ho0) hb); replace HO266 := Aside0.mk (Kd.R_elder' (sR6x8 HO266.out BK280.out) (Kd.R_base ho0) hb); replace HO273 := Aside0.mk (Kd.R_elder' (sR6x8 HO273.out BK280.out) (Kd.R_base ho0) hb); replace HO276 := Aside0.mk (Kd.R_elder' (sR6x8 HO276.out BK280.out) (Kd.R_base ho0) hb); replace HO279 := Aside0.mk (Kd.R_elder' (sR6x8 HO279.out BK280.out) (Kd.R_base ho0) hb); replace BK221 := Aside0.mk (blk_below (g := gb221) (o := .cells #[.int .i64 a0_0, .int .i64 a0_1, .int .i64 a0_2, .slice A0_3 l0_3.length c0_3, .slice A0_4 l0_4.length c0_4, .slice A0_5 l0_5.length c0_5] 26 (0, 0)) (bb6x8 BK221.out NB221_280.out) hb); replace BK222 := Aside0.mk (blk_below (g := gb222) (o := .cells #[.int .i64 a1_0, .int .i64 a1_1, .int .i64 a1_2, .slice A1_3 l1_3.length c1_3, .slice A1_4 l1_4.length c1_4, .slice A1_5 l1_5.length c1_5] 26 (0, 0)) (bb6x8 BK222.out NB222_280.out) hb); replace BK267 := Aside0.mk (blk_below (g := gb267) (o := .cells #[.int .i64 t255, .int .i64 t256, .int .i64 t257, .slice Ao58 t258.length co58, .slice Ao59 t261.length co59, .slice Ao60 t264.length co60] 41 (0, 0)) (bb6x8 BK267.out NB267_280.out) hb); replace BK280 := Aside0.mk (blk_below (g := gb280) (o := .cells #[.int .i64 t268, .int .i64 t269, .int .i64 t270, .slice Ao68 t271.length co68, .slice Ao69 t274.length co69, .slice Ao70 t277.length co70] 41 (0, 0)) (by (with_reducible repeat (first | refine blk_drewN ?_ _ | refine blk_drew ?_ | refine blk_alloc ?_ _)); refine blk_put (cs := #[.int .i64 t268, .int .i64 t269, .int .i64 t270, .slice Ao68 t271.length co68, .slice Ao69 t274.length co69, .slice none 0 0]) ?_ 5 _ rfl; (with_reducible repeat (first | refine blk_drewN ?_ _ | refine blk_drew ?_ | refine blk_alloc ?_ _)); refine blk_put (cs := #[.int .i64 t268, .int .i64 t269, .int .i64 t270, .slice Ao68 t271.length co68, .slice none 0 0, .slice none 0 0]) ?_ 4 _ rfl; (with_reducible repeat (first | refine blk_drewN ?_ _ | refine blk_drew ?_ | refine blk_alloc ?_ _)); refine blk_put (cs := #[.int .i64 t268, .int .i64 t269, .int .i64 t270, .slice none 0 0, .slice none 0 0, .slice none 0 0]) ?_ 3 _ rfl; (with_reducible repeat (first | refine blk_drewN ?_ _ | refine blk_drew ?_ | refine blk_alloc ?_ _)); refine blk_put (cs := #[.int .i64 t268, .int .i64 t269, .int .i64 0, .slice none 0 0, .slice none 0 0, .slice none 0 0]) ?_ 2 _ rfl; (with_reducible repeat (first | refine blk_drewN ?_ _ | refine blk_drew ?_ | refine blk_alloc ?_ _)); refine blk_put (cs := #[.int .i64 t268, .int .i64 0, .int .i64 0, .slice none 0 0, .slice none 0 0, .slice none 0 0]) ?_ 1 _ rfl; (with_reducible repeat (first | refine blk_drewN ?_ _ | refine blk_drew ?_ | refine blk_alloc ?_ _)); refine blk_put (cs := #[.int .i64 0, .int .i64 0, .int .i64 0, .slice none 0 0, .slice none 0 0, .slice none 0 0]) ?_ 0 _ rfl; (with_reducible repeat (first | refine blk_drewN ?_ _ | refine blk_drew ?_ | refine blk_alloc ?_ _)); exact BK280.out) hb); replace HB := Aside0.mk (below_step (be4x8 HB.out GE221.out GE222.out GE267.out GE280.out) hb); (try clear hb); (try clear hb2); (try clear hk); (try clear hi); (try clear ho0); obtain ⟨hcz72_0, hcz72_1, hcz72_2, hcz72_3, hcz72_4, hcz72_5, hfz72_0, hfz72_1, hfz72_2, hfz72_3, hfz72_4, hfz72_5⟩ := cf6x8 BK267.out; obtain ⟨hcz73_0, hcz73_1, hcz73_2, hcz73_3, hcz73_4, hcz73_5, hfz73_0, hfz73_1, hfz73_2, hfz73_3, hfz73_4, hfz73_5⟩ := cf6x8 BK280.out; obtain ⟨Ao74, co74, eo74⟩ := Kd.R_slice HO283.out; subst eo74) | ((with_reducible refine gate_callee (f := 47) rfl ?_); refine goesL_ (some 55) rfl rfl Try.func47 (by kernel_rfl) rfl #[.agg #[.int .i64 t255, .int .i64 t256, .int .i64 t257, .slice Ao58 t258.length co58, .slice Ao59 t261.length co59, .slice Ao60 t264.length co60], .agg #[.int .i64 t268, .int .i64 t269, .int .i64 t270, .slice Ao68 t271.length co68, .slice Ao69 t274.length co69, .slice Ao70 t277.length co70], .slice Ao74 t281.length co74, .int .i64 a3] rfl mpx8 ?_; (with_reducible refine (impl_FactorOf.calls k t255 t256 t257 _ _ t258 _ _ t261 _ _ t264 t268 t269 t270 _ _ t271 _ _ t274 _ _ t277 _ _ t281 a3 t284 t285 t286 _ ?side1 ?side2 ?side3 ?side4 ?side5 ?side6 ?side7 ?side8 ?side9 ?side10 ?side11 ?side12 ?side13 ?side14 A31.out).mono ?_); (case side1 => exact cRx8 HO260.out); (case side2 => exact (Kd.R_reads' HO260.out).2.1); (case side3 => exact cRx8 HO263.out); (case side4 => exact (Kd.R_reads' HO263.out).2.1); (case side5 => exact cRx8 HO266.out); (case side6 => exact (Kd.R_reads' HO266.out).2.1); (case side7 => exact cRx8 HO273.out); (case side8 => exact (Kd.R_reads' HO273.out).2.1); (case side9 => exact cRx8 HO276.out); (case side10 => exact (Kd.R_reads' HO276.out).2.1); (case side11 => exact cRx8 HO279.out); (case side12 => exact (Kd.R_reads' HO279.out).2.1); (case side13 => exact cRx8 HO283.out); (case side14 => exact (Kd.R_reads' HO283.out).2.1); rintro e w75 ⟨rfl, hb⟩; refine ⟨_, rfl, ?_⟩; replace HO230 := Aside0.mk (Kd.R_below (rRx8 HO230.out) hb); replace HO233 := Aside0.mk (Kd.R_below (rRx8 HO233.out) hb); replace HO236 := Aside0.mk (Kd.R_below (rRx8 HO236.out) hb); replace HO242 := Aside0.mk (Kd.R_below (rRx8 HO242.out) hb); replace HO245 := Aside0.mk (Kd.R_below (rRx8 HO245.out) hb); replace HO248 := Aside0.mk (Kd.R_below (rRx8 HO248.out) hb); replace HO251 := Aside0.mk (Kd.R_below (rRx8 HO251.out) hb); replace HO260 := Aside0.mk (Kd.R_below (rRx8 HO260.out) hb); replace HO263 := Aside0.mk (Kd.R_below (rRx8 HO263.out) hb); replace HO266 := Aside0.mk (Kd.R_below (rRx8 HO266.out) hb); replace HO273 := Aside0.mk (Kd.R_below (rRx8 HO273.out) hb); replace HO276 := Aside0.mk (Kd.R_below (rRx8 HO276.out) hb); replace HO279 := Aside0.mk (Kd.R_below (rRx8 HO279.out) hb); replace HO283 := Aside0.mk (Kd.R_below (rRx8 HO283.out) hb); replace BK221 := Aside0.mk (blk_below (g := gb221) (o := .cells #[.int .i64 a0_0, .int .i64 a0_1, .int .i64 a0_2, .slice A0_3 l0_3.length c0_3, .slice A0_4 l0_4.length c0_4, .slice A0_5 l0_5.length c0_5] 26 (0, 0)) (rBx8 BK221.out) hb); replace BK222 := Aside0.mk (blk_below (g := gb222) (o := .cells #[.int .i64 a1_0, .int .i64 a1_1, .int .i64 a1_2, .slice A1_3 l1_3.length c1_3, .slice A1_4 l1_4.length c1_4, .slice A1_5 l1_5.length c1_5] 26 (0, 0)) (rBx8 BK222.out) hb); replace BK267 := Aside0.mk (blk_below (g := gb267) (o := .cells #[.int .i64 t255, .int .i64 t256, .int .i64 t257, .slice Ao58 t258.length co58, .slice Ao59 t261.length co59, .slice Ao60 t264.length co60] 41 (0, 0)) (rBx8 BK267.out) hb); replace BK280 := Aside0.mk (blk_below (g := gb280) (o := .cells #[.int .i64 t268, .int .i64 t269, .int .i64 t270, .slice Ao68 t271.length co68, .slice Ao69 t274.length co69, .slice Ao70 t277.length co70] 41 (0, 0)) (rBx8 BK280.out) hb); replace HB := Aside0.mk (below_step (be4x8 HB.out GE221.out GE222.out GE267.out GE280.out) hb); (try clear hb); (try clear hb2); (try clear hk); (try clear hi)))
    (try simp only [Act.put, List.setIfInBounds_toArray, List.set_cons_zero, List.set_cons_succ])
    go_cut [71] (fun v71 wc => ∃ (kq : Nat) (x71_31 : Bool), v71 = .bool x71_31 ∧ Aside0 (laws_FnExactFactorOf.j0 kq l2 t281 x71_31 a0_0 a0_1 a0_2 l0_3 l0_4 l0_5 a1_0 a1_1 a1_2 l1_3 l1_4 l1_5 t255 t256 t257 t258 t261 t264 t268 t269 t270 t271 t274 t277 = some r) ∧ Aside0 (kq ≤ k) ∧ Aside0 (Kd.R (Kd.int .i64) 3 wc w.heap.size (fun k_ => some k_ ≠ ((.slice Ao58 t258.length co58) : Value).ownBlock ∧ some k_ ≠ ((.slice Ao59 t261.length co59) : Value).ownBlock ∧ some k_ ≠ ((.slice Ao60 t264.length co60) : Value).ownBlock ∧ some k_ ≠ ((.slice Ao68 t271.length co68) : Value).ownBlock ∧ some k_ ≠ ((.slice Ao69 t274.length co69) : Value).ownBlock ∧ some k_ ≠ ((.slice Ao70 t277.length co70) : Value).ownBlock) (.slice Ao74 t281.length co74) t281) ∧ Aside0 (Kd.R (Kd.int .i64) 3 wc w.heap.size (fun k_ => some k_ ≠ ((.slice Ao74 t281.length co74) : Value).ownBlock ∧ some k_ ≠ ((.slice Ao59 t261.length co59) : Value).ownBlock ∧ some k_ ≠ ((.slice Ao60 t264.length co60) : Value).ownBlock ∧ some k_ ≠ ((.slice Ao68 t271.length co68) : Value).ownBlock ∧ some k_ ≠ ((.slice Ao69 t274.length co69) : Value).ownBlock ∧ some k_ ≠ ((.slice Ao70 t277.length co70) : Value).ownBlock) (.slice Ao58 t258.length co58) t258) ∧ Aside0 (Kd.R (Kd.int .i64) 3 wc w.heap.size (fun k_ => some k_ ≠ ((.slice Ao74 t281.length co74) : Value).ownBlock ∧ some k_ ≠ ((.slice Ao58 t258.length co58) : Value).ownBlock ∧ some k_ ≠ ((.slice Ao60 t264.length co60) : Value).ownBlock ∧ some k_ ≠ ((.slice Ao68 t271.length co68) : Value).ownBlock ∧ some k_ ≠ ((.slice Ao69 t274.length co69) : Value).ownBlock ∧ some k_ ≠ ((.slice Ao70 t277.length co70) : Value).ownBlock) (.slice Ao59 t261.length co59) t261) ∧ Aside0 (Kd.R (Kd.int .i64) 3 wc w.heap.size (fun k_ => some k_ ≠ ((.slice Ao74 t281.length co74) : Value).ownBlock ∧ some k_ ≠ ((.slice Ao58 t258.length co58) : Value).ownBlock ∧ some k_ ≠ ((.slice Ao59 t261.length co59) : Value).ownBlock ∧ some k_ ≠ ((.slice Ao68 t271.length co68) : Value).ownBlock ∧ some k_ ≠ ((.slice Ao69 t274.length co69) : Value).ownBlock ∧ some k_ ≠ ((.slice Ao70 t277.length co70) : Value).ownBlock) (.slice Ao60 t264.length co60) t264) ∧ Aside0 (Kd.R (Kd.int .i64) 3 wc w.heap.size (fun k_ => some k_ ≠ ((.slice Ao74 t281.length co74) : Value).ownBlock ∧ some k_ ≠ ((.slice Ao58 t258.length co58) : Value).ownBlock ∧ some k_ ≠ ((.slice Ao59 t261.length co59) : Value).ownBlock ∧ some k_ ≠ ((.slice Ao60 t264.length co60) : Value).ownBlock ∧ some k_ ≠ ((.slice Ao69 t274.length co69) : Value).ownBlock ∧ some k_ ≠ ((.slice Ao70 t277.length co70) : Value).ownBlock) (.slice Ao68 t271.length co68) t271) ∧ Aside0 (Kd.R (Kd.int .i64) 3 wc w.heap.size (fun k_ => some k_ ≠ ((.slice Ao74 t281.length co74) : Value).ownBlock ∧ some k_ ≠ ((.slice Ao58 t258.length co58) : Value).ownBlock ∧ some k_ ≠ ((.slice Ao59 t261.length co59) : Value).ownBlock ∧ some k_ ≠ ((.slice Ao60 t264.length co60) : Value).ownBlock ∧ some k_ ≠ ((.slice Ao68 t271.length co68) : Value).ownBlock ∧ some k_ ≠ ((.slice Ao70 t277.length co70) : Value).ownBlock) (.slice Ao69 t274.length co69) t274) ∧ Aside0 (Kd.R (Kd.int .i64) 3 wc w.heap.size (fun k_ => some k_ ≠ ((.slice Ao74 t281.length co74) : Value).ownBlock ∧ some k_ ≠ ((.slice Ao58 t258.length co58) : Value).ownBlock ∧ some k_ ≠ ((.slice Ao59 t261.length co59) : Value).ownBlock ∧ some k_ ≠ ((.slice Ao60 t264.length co60) : Value).ownBlock ∧ some k_ ≠ ((.slice Ao68 t271.length co68) : Value).ownBlock ∧ some k_ ≠ ((.slice Ao69 t274.length co69) : Value).ownBlock) (.slice Ao70 t277.length co70) t277) ∧ Aside0 (wc.heap[gb221]? = some (.cells #[.int .i64 a0_0, .int .i64 a0_1, .int .i64 a0_2, (.slice A0_3 l0_3.length c0_3), (.slice A0_4 l0_4.length c0_4), (.slice A0_5 l0_5.length c0_5)] 26 (0, 0))) ∧ Aside0 (wc.heap[gb222]? = some (.cells #[.int .i64 a1_0, .int .i64 a1_1, .int .i64 a1_2, (.slice A1_3 l1_3.length c1_3), (.slice A1_4 l1_4.length c1_4), (.slice A1_5 l1_5.length c1_5)] 26 (0, 0))) ∧ Aside0 (wc.heap[gb267]? = some (.cells #[.int .i64 t255, .int .i64 t256, .int .i64 t257, (.slice Ao58 t258.length co58), (.slice Ao59 t261.length co59), (.slice Ao60 t264.length co60)] 41 (0, 0))) ∧ Aside0 (wc.heap[gb280]? = some (.cells #[.int .i64 t268, .int .i64 t269, .int .i64 t270, (.slice Ao68 t271.length co68), (.slice Ao69 t274.length co69), (.slice Ao70 t277.length co70)] 41 (0, 0))) ∧ Aside0 (Below w.heap.size w wc))
    case first =>
     have H := HC32.out
     clear HC32
     by_cases c76 : t284 = t252
     ·rw [if_pos c76] at H
      have c76b0 : (t284 == t252) = true := beq_iff_eq.mpr c76
      have c76b1 : (t284 != t252) = false := bne_eq_false_iff_eq.mpr c76
      clear c76
      (first | rw [c76b0] | (simp only [i64_w, i32_w]; rw [c76b0]) | skip)
      by_cases c77 : t285 = t253
      ·rw [if_pos c77] at H
       have c77b0 : (t285 == t253) = true := beq_iff_eq.mpr c77
       have c77b1 : (t285 != t253) = false := bne_eq_false_iff_eq.mpr c77
       clear c77
       have H' := Aside0.mk H
       clear H
       go_wp2
       go_meet
       case rel => exact ⟨_, ((t286 != t254)), (by first | rfl | (simp; done) | (simp [*]; done)), H', ⟨by first | omega | exact Nat.le_refl _⟩, ⟨by exact rRx8 (Kd.R_mono HO283.out (fun _ hk => ⟨hk.1.1.1.1.1.2, ⟨hk.1.1.1.1.2, ⟨hk.1.1.1.2, ⟨hk.1.1.2, ⟨hk.1.2, hk.2⟩⟩⟩⟩⟩))⟩, ⟨by exact rRx8 (Kd.R_mono HO260.out (fun _ hk => ⟨hk.2, ⟨hk.1.1.1.1.1.1.1.1.1.1.1.1, ⟨hk.1.1.1.1.1.1.1.1.1.1.1.2, ⟨hk.1.1.1.2, ⟨hk.1.1.2, hk.1.2⟩⟩⟩⟩⟩))⟩, ⟨by exact rRx8 (Kd.R_mono HO263.out (fun _ hk => ⟨hk.2, ⟨hk.1.1.1.1.1.1.1.1.1.1.1.1, ⟨hk.1.1.1.1.1.1.1.1.1.1.1.2, ⟨hk.1.1.1.2, ⟨hk.1.1.2, hk.1.2⟩⟩⟩⟩⟩))⟩, ⟨by exact rRx8 (Kd.R_mono HO266.out (fun _ hk => ⟨hk.2, ⟨hk.1.1.1.1.1.1.1.1.1.1.1.1, ⟨hk.1.1.1.1.1.1.1.1.1.1.1.2, ⟨hk.1.1.1.2, ⟨hk.1.1.2, hk.1.2⟩⟩⟩⟩⟩))⟩, ⟨by exact rRx8 (Kd.R_mono HO273.out (fun _ hk => ⟨hk.2, ⟨hk.1.1.1.2, ⟨hk.1.1.2, ⟨hk.1.2, ⟨hk.1.1.1.1.1.1.1.1.1.1.1.1, hk.1.1.1.1.1.1.1.1.1.1.1.2⟩⟩⟩⟩⟩))⟩, ⟨by exact rRx8 (Kd.R_mono HO276.out (fun _ hk => ⟨hk.2, ⟨hk.1.1.1.2, ⟨hk.1.1.2, ⟨hk.1.2, ⟨hk.1.1.1.1.1.1.1.1.1.1.1.1, hk.1.1.1.1.1.1.1.1.1.1.1.2⟩⟩⟩⟩⟩))⟩, ⟨by exact rRx8 (Kd.R_mono HO279.out (fun _ hk => ⟨hk.2, ⟨hk.1.1.1.2, ⟨hk.1.1.2, ⟨hk.1.2, ⟨hk.1.1.1.1.1.1.1.1.1.1.1.1, hk.1.1.1.1.1.1.1.1.1.1.1.2⟩⟩⟩⟩⟩))⟩, ⟨rBx8 BK221.out⟩, ⟨rBx8 BK222.out⟩, ⟨rBx8 BK267.out⟩, ⟨rBx8 BK280.out⟩, ⟨be4x8 HB.out GE221.out GE222.out GE267.out GE280.out⟩⟩
      ·rw [if_neg c77] at H
       have c77b0 : (t285 == t253) = false := beq_eq_false_iff_ne.mpr c77
       have c77b1 : (t285 != t253) = true := bne_iff_ne.mpr c77
       have H' := Aside0.mk H
       clear H
       go_wp2
       go_meet
       case rel => exact ⟨_, (true), (by first | rfl | (simp; done) | (simp [*]; done)), H', ⟨by first | omega | exact Nat.le_refl _⟩, ⟨by exact rRx8 (Kd.R_mono HO283.out (fun _ hk => ⟨hk.1.1.1.1.1.2, ⟨hk.1.1.1.1.2, ⟨hk.1.1.1.2, ⟨hk.1.1.2, ⟨hk.1.2, hk.2⟩⟩⟩⟩⟩))⟩, ⟨by exact rRx8 (Kd.R_mono HO260.out (fun _ hk => ⟨hk.2, ⟨hk.1.1.1.1.1.1.1.1.1.1.1.1, ⟨hk.1.1.1.1.1.1.1.1.1.1.1.2, ⟨hk.1.1.1.2, ⟨hk.1.1.2, hk.1.2⟩⟩⟩⟩⟩))⟩, ⟨by exact rRx8 (Kd.R_mono HO263.out (fun _ hk => ⟨hk.2, ⟨hk.1.1.1.1.1.1.1.1.1.1.1.1, ⟨hk.1.1.1.1.1.1.1.1.1.1.1.2, ⟨hk.1.1.1.2, ⟨hk.1.1.2, hk.1.2⟩⟩⟩⟩⟩))⟩, ⟨by exact rRx8 (Kd.R_mono HO266.out (fun _ hk => ⟨hk.2, ⟨hk.1.1.1.1.1.1.1.1.1.1.1.1, ⟨hk.1.1.1.1.1.1.1.1.1.1.1.2, ⟨hk.1.1.1.2, ⟨hk.1.1.2, hk.1.2⟩⟩⟩⟩⟩))⟩, ⟨by exact rRx8 (Kd.R_mono HO273.out (fun _ hk => ⟨hk.2, ⟨hk.1.1.1.2, ⟨hk.1.1.2, ⟨hk.1.2, ⟨hk.1.1.1.1.1.1.1.1.1.1.1.1, hk.1.1.1.1.1.1.1.1.1.1.1.2⟩⟩⟩⟩⟩))⟩, ⟨by exact rRx8 (Kd.R_mono HO276.out (fun _ hk => ⟨hk.2, ⟨hk.1.1.1.2, ⟨hk.1.1.2, ⟨hk.1.2, ⟨hk.1.1.1.1.1.1.1.1.1.1.1.1, hk.1.1.1.1.1.1.1.1.1.1.1.2⟩⟩⟩⟩⟩))⟩, ⟨by exact rRx8 (Kd.R_mono HO279.out (fun _ hk => ⟨hk.2, ⟨hk.1.1.1.2, ⟨hk.1.1.2, ⟨hk.1.2, ⟨hk.1.1.1.1.1.1.1.1.1.1.1.1, hk.1.1.1.1.1.1.1.1.1.1.1.2⟩⟩⟩⟩⟩))⟩, ⟨rBx8 BK221.out⟩, ⟨rBx8 BK222.out⟩, ⟨rBx8 BK267.out⟩, ⟨rBx8 BK280.out⟩, ⟨be4x8 HB.out GE221.out GE222.out GE267.out GE280.out⟩⟩
     ·rw [if_neg c76] at H
      have c76b0 : (t284 == t252) = false := beq_eq_false_iff_ne.mpr c76
      have c76b1 : (t284 != t252) = true := bne_iff_ne.mpr c76
      (first | rw [c76b0] | (simp only [i64_w, i32_w]; rw [c76b0]) | skip)
      have H' := Aside0.mk H
      clear H
      go_wp2
      go_meet
      case rel => exact ⟨_, (true), (by first | rfl | (simp; done) | (simp [*]; done)), H', ⟨by first | omega | exact Nat.le_refl _⟩, ⟨by exact rRx8 (Kd.R_mono HO283.out (fun _ hk => ⟨hk.1.1.1.1.1.2, ⟨hk.1.1.1.1.2, ⟨hk.1.1.1.2, ⟨hk.1.1.2, ⟨hk.1.2, hk.2⟩⟩⟩⟩⟩))⟩, ⟨by exact rRx8 (Kd.R_mono HO260.out (fun _ hk => ⟨hk.2, ⟨hk.1.1.1.1.1.1.1.1.1.1.1.1, ⟨hk.1.1.1.1.1.1.1.1.1.1.1.2, ⟨hk.1.1.1.2, ⟨hk.1.1.2, hk.1.2⟩⟩⟩⟩⟩))⟩, ⟨by exact rRx8 (Kd.R_mono HO263.out (fun _ hk => ⟨hk.2, ⟨hk.1.1.1.1.1.1.1.1.1.1.1.1, ⟨hk.1.1.1.1.1.1.1.1.1.1.1.2, ⟨hk.1.1.1.2, ⟨hk.1.1.2, hk.1.2⟩⟩⟩⟩⟩))⟩, ⟨by exact rRx8 (Kd.R_mono HO266.out (fun _ hk => ⟨hk.2, ⟨hk.1.1.1.1.1.1.1.1.1.1.1.1, ⟨hk.1.1.1.1.1.1.1.1.1.1.1.2, ⟨hk.1.1.1.2, ⟨hk.1.1.2, hk.1.2⟩⟩⟩⟩⟩))⟩, ⟨by exact rRx8 (Kd.R_mono HO273.out (fun _ hk => ⟨hk.2, ⟨hk.1.1.1.2, ⟨hk.1.1.2, ⟨hk.1.2, ⟨hk.1.1.1.1.1.1.1.1.1.1.1.1, hk.1.1.1.1.1.1.1.1.1.1.1.2⟩⟩⟩⟩⟩))⟩, ⟨by exact rRx8 (Kd.R_mono HO276.out (fun _ hk => ⟨hk.2, ⟨hk.1.1.1.2, ⟨hk.1.1.2, ⟨hk.1.2, ⟨hk.1.1.1.1.1.1.1.1.1.1.1.1, hk.1.1.1.1.1.1.1.1.1.1.1.2⟩⟩⟩⟩⟩))⟩, ⟨by exact rRx8 (Kd.R_mono HO279.out (fun _ hk => ⟨hk.2, ⟨hk.1.1.1.2, ⟨hk.1.1.2, ⟨hk.1.2, ⟨hk.1.1.1.1.1.1.1.1.1.1.1.1, hk.1.1.1.1.1.1.1.1.1.1.1.2⟩⟩⟩⟩⟩))⟩, ⟨rBx8 BK221.out⟩, ⟨rBx8 BK222.out⟩, ⟨rBx8 BK267.out⟩, ⟨rBx8 BK280.out⟩, ⟨be4x8 HB.out GE221.out GE222.out GE267.out GE280.out⟩⟩
    case rest =>
     clear HC32
     try clear c2; try clear c5; try clear c5b0; try clear c5b1; try clear c9; try clear c9b0; try clear c16; try clear c16b0; try clear c76; try clear c76b0; try clear c76b1; try clear c77; try clear c77b0; try clear c77b1; try clear hcz13_0 hcz13_1 hcz13_2 hcz13_3 hcz13_4 hcz13_5; try clear hcz20_0 hcz20_1 hcz20_2 hcz20_3 hcz20_4 hcz20_5; try clear hcz22_0 hcz22_1 hcz22_2 hcz22_3 hcz22_4 hcz22_5; try clear hcz36_0 hcz36_1 hcz36_2 hcz36_3 hcz36_4 hcz36_5; try clear hcz38_0 hcz38_1 hcz38_2 hcz38_3 hcz38_4 hcz38_5; try clear hcz52_0 hcz52_1 hcz52_2 hcz52_3 hcz52_4 hcz52_5; try clear hcz57_0 hcz57_1 hcz57_2 hcz57_3 hcz57_4 hcz57_5; try clear hcz61_0 hcz61_1 hcz61_2 hcz61_3 hcz61_4 hcz61_5; try clear hcz67_0 hcz67_1 hcz67_2 hcz67_3 hcz67_4 hcz67_5; try clear hcz72_0 hcz72_1 hcz72_2 hcz72_3 hcz72_4 hcz72_5; try clear hcz73_0 hcz73_1 hcz73_2 hcz73_3 hcz73_4 hcz73_5; try clear hfz13_0 hfz13_1 hfz13_2 hfz13_3 hfz13_4 hfz13_5; try clear hfz20_0 hfz20_1 hfz20_2 hfz20_3 hfz20_4 hfz20_5; try clear hfz22_0 hfz22_1 hfz22_2 hfz22_3 hfz22_4 hfz22_5; try clear hfz36_0 hfz36_1 hfz36_2 hfz36_3 hfz36_4 hfz36_5; try clear hfz38_0 hfz38_1 hfz38_2 hfz38_3 hfz38_4 hfz38_5; try clear hfz52_0 hfz52_1 hfz52_2 hfz52_3 hfz52_4 hfz52_5; try clear hfz57_0 hfz57_1 hfz57_2 hfz57_3 hfz57_4 hfz57_5; try clear hfz61_0 hfz61_1 hfz61_2 hfz61_3 hfz61_4 hfz61_5; try clear hfz67_0 hfz67_1 hfz67_2 hfz67_3 hfz67_4 hfz67_5; try clear hfz72_0 hfz72_1 hfz72_2 hfz72_3 hfz72_4 hfz72_5; try clear hfz73_0 hfz73_1 hfz73_2 hfz73_3 hfz73_4 hfz73_5
     obtain ⟨kq, x71_31, rfl, HA, HJ31, HO_15, HO_268003, HO_268004, HO_268005, HO_281003, HO_281004, HO_281005, BK221, BK222, BK267, BK280, HB⟩ := hcut
     cases kq with
     | zero => exact absurd HA.out (by simp [laws_FnExactFactorOf.j0])
     | succ kj31 =>
      have H := HA.out
      clear HA
      simp only [laws_FnExactFactorOf.j0] at H
      by_cases c78 : x71_31 = true
      ·subst c78
       have H1 : (some false) = some r := by rw [if_pos rfl] at H; exact H
       clear H
       have H := H1
       clear H1
       obtain rfl := Option.some.inj H
       go_wp2
       go_ret
       exact ⟨by first | rfl | (simp [errW_none, errW_some] <;> rfl) | (simp [*, errW_none, errW_some] <;> rfl), be4x8 HB.out GE221.out GE222.out GE267.out GE280.out⟩
      ·replace c78 := Bool.eq_false_iff.mpr c78
       subst c78
       have H1 : ((laws_toModel.f kj31 a0_0 a0_1 a0_2 l0_3 l0_4 l0_5).bind fun bt287 => ((laws_eqModel.f kj31 t255 t256 t257 t258 t261 t264 bt287.1 bt287.2.1 bt287.2.2.1 bt287.2.2.2.1 bt287.2.2.2.2.1 bt287.2.2.2.2.2).bind fun t299 => (if t299 = true then (laws_FnExactFactorOf.j1 kj31 l2 t281 a1_0 a1_1 a1_2 l1_3 l1_4 l1_5 t268 t269 t270 t271 t274 t277) else (some false)))) = some r := by rw [if_neg (show ¬ (false = true) by decide)] at H; exact H
       clear H
       have H := H1
       clear H1
       replace H := Option.bind_eq_some_iff.mp H
       obtain ⟨⟨t287, t288, t289, t290, t293, t296⟩, A790, H⟩ := H
       (try dsimp only at H)
       have A79 := Aside0.mk A790
       clear A790
       replace H := Option.bind_eq_some_iff.mp H
       obtain ⟨t299, A800, H⟩ := H
       have A80 := Aside0.mk A800
       clear A800
       have HC81 := Aside0.mk H
       clear H
       try go_wp2
       have n0_ := Aside0.mk (Kd.R_drew HO_15.out)
       have n1_ := Aside0.mk (Kd.R_drew HO_268003.out)
       have n2_ := Aside0.mk (Kd.R_drew HO_268004.out)
       have n3_ := Aside0.mk (Kd.R_drew HO_268005.out)
       have n4_ := Aside0.mk (Kd.R_drew HO_281003.out)
       have n5_ := Aside0.mk (Kd.R_drew HO_281004.out)
       have n6_ := Aside0.mk (Kd.R_drew HO_281005.out)
       have n7_ := Aside0.mk (blk_drew BK221.out)
       have n8_ := Aside0.mk (blk_drew BK222.out)
       have n9_ := Aside0.mk (blk_drew BK267.out)
       have n10_ := Aside0.mk (blk_drew BK280.out)
       have n11_ := Aside0.mk (below_drew1 HB.out)
       clear HO_15
       clear HO_268003
       clear HO_268004
       clear HO_268005
       clear HO_281003
       clear HO_281004
       clear HO_281005
       clear BK221
       clear BK222
       clear BK267
       clear BK280
       clear HB
       have HO_15 := n0_
       have HO_268003 := n1_
       have HO_268004 := n2_
       have HO_268005 := n3_
       have HO_281003 := n4_
       have HO_281004 := n5_
       have HO_281005 := n6_
       have BK221 := n7_
       have BK222 := n8_
       have BK267 := n9_
       have BK280 := n10_
       have HB := n11_
       clear n0_ n1_ n2_ n3_ n4_ n5_ n6_ n7_ n8_ n9_ n10_ n11_
       refine start_ (n := 5) (S := fun w' => w'.cell? ⟨gb267, 0, none⟩ = some (.int .i64 t255) ∧ w'.cell? ⟨gb267, 1, none⟩ = some (.int .i64 t256) ∧ w'.cell? ⟨gb267, 2, none⟩ = some (.int .i64 t257) ∧ w'.cell? ⟨gb267, 3, none⟩ = some (.slice Ao58 t258.length co58) ∧ w'.cell? ⟨gb267, 4, none⟩ = some (.slice Ao59 t261.length co59) ∧ w'.cell? ⟨gb267, 5, none⟩ = some (.slice Ao60 t264.length co60) ∧ w'.cell? ⟨gb221, 0, none⟩ = some (.int .i64 a0_0) ∧ w'.cell? ⟨gb221, 1, none⟩ = some (.int .i64 a0_1) ∧ w'.cell? ⟨gb221, 2, none⟩ = some (.int .i64 a0_2) ∧ w'.cell? ⟨gb221, 3, none⟩ = some (.slice A0_3 l0_3.length c0_3) ∧ w'.cell? ⟨gb221, 4, none⟩ = some (.slice A0_4 l0_4.length c0_4) ∧ w'.cell? ⟨gb221, 5, none⟩ = some (.slice A0_5 l0_5.length c0_5)) (ds := []) #[false, false, false, false, false] (by kernel_rfl) rfl rfl (ca6x8 BK267.out (cc6x8 BK221.out)) (fun hHeld => ?_)
       generalize wc.drew = w82 at HO_15 HO_268003 HO_268004 HO_268005 HO_281003 HO_281004 HO_281005 BK221 BK222 BK267 BK280 HB hHeld ⊢
       refine take_ (i := 0) (N := some 72) (v := ?_) (a' := ?_) #[true, false, false, false, false] rfl rfl (by kernel_rfl) (fun _ _ _ h => h) (Or.inl ⟨by rfl, ?_⟩) hHeld ?_ ?_
       rotate_left
       ·rintro w' ⟨s0, s1, s2, s3, s4, s5, s6, s7, s8, s9, s10, s11⟩
        go_simp
        with_reducible rfl
       rotate_left
       ·simp only [Act.put, List.setIfInBounds_toArray, List.set_cons_zero, List.set_cons_succ, i64_w, i32_w]
        rfl
       refine take_ (i := 1) (N := some 73) (v := ?_) (a' := ?_) #[true, true, false, false, false] rfl rfl (by kernel_rfl) (fun _ _ _ h => h) (Or.inl ⟨by rfl, ?_⟩) hHeld ?_ ?_
       rotate_left
       ·rintro w' ⟨s0, s1, s2, s3, s4, s5, s6, s7, s8, s9, s10, s11⟩
        go_simp
        with_reducible rfl
       rotate_left
       ·simp only [Act.put, List.setIfInBounds_toArray, List.set_cons_zero, List.set_cons_succ, i64_w, i32_w]
        rfl
       refine one_ (i := 2) (N := some 74) #[true, true, true, false, false] rfl rfl (by kernel_rfl) (by decide) (fun K hK => ?_)
       refine goes_ Try.func19 (by kernel_rfl) rfl #[.agg #[.int .i64 a0_0, .int .i64 a0_1, .int .i64 a0_2, .slice A0_3 l0_3.length c0_3, .slice A0_4 l0_4.length c0_4, .slice A0_5 l0_5.length c0_5]] (by rfl) rfl rfl mpx8 ?_
       with_reducible refine (laws_toModel.calls kj31 a0_0 a0_1 a0_2 _ _ l0_3 _ _ l0_4 _ _ l0_5 t287 t288 t289 t290 t293 t296 _ ?side1 ?side2 ?side3 ?side4 ?side5 ?side6 A79.out).mono ?_
       (case side1 => exact rCx8 (Kd.C_below HR0_3.out HB.out))
       (case side2 => exact HC0_3.out)
       (case side3 => exact rCx8 (Kd.C_below HR0_4.out HB.out))
       (case side4 => exact HC0_4.out)
       (case side5 => exact rCx8 (Kd.C_below HR0_5.out HB.out))
       (case side6 => exact HC0_5.out)
       rintro e w83 ⟨v291, v294, v297, rfl, ho0, ho1, ho2, hb⟩
       refine ⟨_, rfl, ?_⟩
       have n0_ := Aside0.mk (kp3x8 (rRx8 HO_15.out) hb ho0 ho1 ho2)
       have n1_ := Aside0.mk (kp3x8 (rRx8 HO_268003.out) hb ho0 ho1 ho2)
       have n2_ := Aside0.mk (kp3x8 (rRx8 HO_268004.out) hb ho0 ho1 ho2)
       have n3_ := Aside0.mk (kp3x8 (rRx8 HO_268005.out) hb ho0 ho1 ho2)
       have n4_ := Aside0.mk (kp3x8 (rRx8 HO_281003.out) hb ho0 ho1 ho2)
       have n5_ := Aside0.mk (kp3x8 (rRx8 HO_281004.out) hb ho0 ho1 ho2)
       have n6_ := Aside0.mk (kp3x8 (rRx8 HO_281005.out) hb ho0 ho1 ho2)
       have n7_ := Aside0.mk (Kd.R_lower (Kd.R_new' (Kd.R_new' (Kd.R_new' (Kd.R_new' (Kd.R_new' (Kd.R_new' (Kd.R_new' ho0 (Kd.R_lt (rRx8 HO_15.out))) (Kd.R_lt (rRx8 HO_268003.out))) (Kd.R_lt (rRx8 HO_268004.out))) (Kd.R_lt (rRx8 HO_268005.out))) (Kd.R_lt (rRx8 HO_281003.out))) (Kd.R_lt (rRx8 HO_281004.out))) (Kd.R_lt (rRx8 HO_281005.out))) (below_size (be4x8 HB.out GE221.out GE222.out GE267.out GE280.out)))
       have n8_ := Aside0.mk (Kd.R_lower (Kd.R_new' (Kd.R_new' (Kd.R_new' (Kd.R_new' (Kd.R_new' (Kd.R_new' (Kd.R_new' ho1 (Kd.R_lt (rRx8 HO_15.out))) (Kd.R_lt (rRx8 HO_268003.out))) (Kd.R_lt (rRx8 HO_268004.out))) (Kd.R_lt (rRx8 HO_268005.out))) (Kd.R_lt (rRx8 HO_281003.out))) (Kd.R_lt (rRx8 HO_281004.out))) (Kd.R_lt (rRx8 HO_281005.out))) (below_size (be4x8 HB.out GE221.out GE222.out GE267.out GE280.out)))
       have n9_ := Aside0.mk (Kd.R_lower (Kd.R_new' (Kd.R_new' (Kd.R_new' (Kd.R_new' (Kd.R_new' (Kd.R_new' (Kd.R_new' ho2 (Kd.R_lt (rRx8 HO_15.out))) (Kd.R_lt (rRx8 HO_268003.out))) (Kd.R_lt (rRx8 HO_268004.out))) (Kd.R_lt (rRx8 HO_268005.out))) (Kd.R_lt (rRx8 HO_281003.out))) (Kd.R_lt (rRx8 HO_281004.out))) (Kd.R_lt (rRx8 HO_281005.out))) (below_size (be4x8 HB.out GE221.out GE222.out GE267.out GE280.out)))
       have n10_ := Aside0.mk (blk_below (g := gb221) (o := .cells #[.int .i64 a0_0, .int .i64 a0_1, .int .i64 a0_2, .slice A0_3 l0_3.length c0_3, .slice A0_4 l0_4.length c0_4, .slice A0_5 l0_5.length c0_5] 26 (0, 0)) (rBx8 BK221.out) hb)
       have n11_ := Aside0.mk (blk_below (g := gb222) (o := .cells #[.int .i64 a1_0, .int .i64 a1_1, .int .i64 a1_2, .slice A1_3 l1_3.length c1_3, .slice A1_4 l1_4.length c1_4, .slice A1_5 l1_5.length c1_5] 26 (0, 0)) (rBx8 BK222.out) hb)
       have n12_ := Aside0.mk (blk_below (g := gb267) (o := .cells #[.int .i64 t255, .int .i64 t256, .int .i64 t257, .slice Ao58 t258.length co58, .slice Ao59 t261.length co59, .slice Ao60 t264.length co60] 41 (0, 0)) (rBx8 BK267.out) hb)
       have n13_ := Aside0.mk (blk_below (g := gb280) (o := .cells #[.int .i64 t268, .int .i64 t269, .int .i64 t270, .slice Ao68 t271.length co68, .slice Ao69 t274.length co69, .slice Ao70 t277.length co70] 41 (0, 0)) (rBx8 BK280.out) hb)
       have n14_ := Aside0.mk (below_step (be4x8 HB.out GE221.out GE222.out GE267.out GE280.out) hb)
       clear HO_15
       clear HO_268003
       clear HO_268004
       clear HO_268005
       clear HO_281003
       clear HO_281004
       clear HO_281005
       clear BK221
       clear BK222
       clear BK267
       clear BK280
       clear HB
       have HO_15 := n0_
       have HO_268003 := n1_
       have HO_268004 := n2_
       have HO_268005 := n3_
       have HO_281003 := n4_
       have HO_281004 := n5_
       have HO_281005 := n6_
       have HO292 := n7_
       have HO295 := n8_
       have HO298 := n9_
       have BK221 := n10_
       have BK222 := n11_
       have BK267 := n12_
       have BK280 := n13_
       have HB := n14_
       clear n0_ n1_ n2_ n3_ n4_ n5_ n6_ n7_ n8_ n9_ n10_ n11_ n12_ n13_ n14_
       (try clear hb)
       (try clear hb2)
       (try clear hk)
       (try clear hi)
       (try clear ho0)
       (try clear ho1)
       (try clear ho2)
       obtain ⟨Ao84, co84, eo84⟩ := Kd.R_slice HO292.out
       (first | subst eo84 | (injection eo84 with f1_ f2_ f3_; have f4_ := f1_.symm; have f5_ := f3_.symm; clear f1_ f2_ f3_; subst f4_; subst f5_))
       obtain ⟨Ao85, co85, eo85⟩ := Kd.R_slice HO295.out
       (first | subst eo85 | (injection eo85 with f1_ f2_ f3_; have f4_ := f1_.symm; have f5_ := f3_.symm; clear f1_ f2_ f3_; subst f4_; subst f5_))
       obtain ⟨Ao86, co86, eo86⟩ := Kd.R_slice HO298.out
       (first | subst eo86 | (injection eo86 with f1_ f2_ f3_; have f4_ := f1_.symm; have f5_ := f3_.symm; clear f1_ f2_ f3_; subst f4_; subst f5_))
       refine hK.out _ _ (ca6x8 BK267.out (cc6x8 BK221.out)) (fun hHeld => ?_)
       clear hK K
       refine norm_ (a' := ?_) ?_ ?_
       rotate_left
       ·show Act.put _ (some 74) _ = _
        simp only [Act.put, List.setIfInBounds_toArray, List.set_cons_zero, List.set_cons_succ, i64_w, i32_w]
        rfl
       refine one_ (i := 3) (N := some 75) #[true, true, true, true, false] rfl rfl (by kernel_rfl) (by decide) (fun K hK => ?_)
       refine goes_ Try.func24 (by kernel_rfl) rfl #[.agg #[.int .i64 t255, .int .i64 t256, .int .i64 t257, .slice Ao58 t258.length co58, .slice Ao59 t261.length co59, .slice Ao60 t264.length co60], .agg #[.int .i64 t287, .int .i64 t288, .int .i64 t289, .slice Ao84 t290.length co84, .slice Ao85 t293.length co85, .slice Ao86 t296.length co86]] (by rfl) rfl rfl mpx8 ?_
       with_reducible refine (laws_eqModel.calls kj31 t255 t256 t257 _ _ t258 _ _ t261 _ _ t264 t287 t288 t289 _ _ t290 _ _ t293 _ _ t296 t299 _ ?side1 ?side2 ?side3 ?side4 ?side5 ?side6 ?side7 ?side8 ?side9 ?side10 ?side11 ?side12 A80.out).mono ?_
       (case side1 => exact cRx8 HO_268003.out)
       (case side2 => exact (Kd.R_reads' HO_268003.out).2.1)
       (case side3 => exact cRx8 HO_268004.out)
       (case side4 => exact (Kd.R_reads' HO_268004.out).2.1)
       (case side5 => exact cRx8 HO_268005.out)
       (case side6 => exact (Kd.R_reads' HO_268005.out).2.1)
       (case side7 => exact cRx8 HO292.out)
       (case side8 => exact (Kd.R_reads' HO292.out).2.1)
       (case side9 => exact cRx8 HO295.out)
       (case side10 => exact (Kd.R_reads' HO295.out).2.1)
       (case side11 => exact cRx8 HO298.out)
       (case side12 => exact (Kd.R_reads' HO298.out).2.1)
       rintro e w87 ⟨rfl, hb⟩
       refine ⟨_, rfl, ?_⟩
       have n0_ := Aside0.mk (Kd.R_below (rRx8 HO_15.out) hb)
       have n1_ := Aside0.mk (Kd.R_below (rRx8 HO_268003.out) hb)
       have n2_ := Aside0.mk (Kd.R_below (rRx8 HO_268004.out) hb)
       have n3_ := Aside0.mk (Kd.R_below (rRx8 HO_268005.out) hb)
       have n4_ := Aside0.mk (Kd.R_below (rRx8 HO_281003.out) hb)
       have n5_ := Aside0.mk (Kd.R_below (rRx8 HO_281004.out) hb)
       have n6_ := Aside0.mk (Kd.R_below (rRx8 HO_281005.out) hb)
       have n7_ := Aside0.mk (Kd.R_below (rRx8 HO292.out) hb)
       have n8_ := Aside0.mk (Kd.R_below (rRx8 HO295.out) hb)
       have n9_ := Aside0.mk (Kd.R_below (rRx8 HO298.out) hb)
       have n10_ := Aside0.mk (blk_below (g := gb221) (o := .cells #[.int .i64 a0_0, .int .i64 a0_1, .int .i64 a0_2, .slice A0_3 l0_3.length c0_3, .slice A0_4 l0_4.length c0_4, .slice A0_5 l0_5.length c0_5] 26 (0, 0)) (rBx8 BK221.out) hb)
       have n11_ := Aside0.mk (blk_below (g := gb222) (o := .cells #[.int .i64 a1_0, .int .i64 a1_1, .int .i64 a1_2, .slice A1_3 l1_3.length c1_3, .slice A1_4 l1_4.length c1_4, .slice A1_5 l1_5.length c1_5] 26 (0, 0)) (rBx8 BK222.out) hb)
       have n12_ := Aside0.mk (blk_below (g := gb267) (o := .cells #[.int .i64 t255, .int .i64 t256, .int .i64 t257, .slice Ao58 t258.length co58, .slice Ao59 t261.length co59, .slice Ao60 t264.length co60] 41 (0, 0)) (rBx8 BK267.out) hb)
       have n13_ := Aside0.mk (blk_below (g := gb280) (o := .cells #[.int .i64 t268, .int .i64 t269, .int .i64 t270, .slice Ao68 t271.length co68, .slice Ao69 t274.length co69, .slice Ao70 t277.length co70] 41 (0, 0)) (rBx8 BK280.out) hb)
       have n14_ := Aside0.mk (below_step (be4x8 HB.out GE221.out GE222.out GE267.out GE280.out) hb)
       clear HO_15
       clear HO_268003
       clear HO_268004
       clear HO_268005
       clear HO_281003
       clear HO_281004
       clear HO_281005
       clear HO292
       clear HO295
       clear HO298
       clear BK221
       clear BK222
       clear BK267
       clear BK280
       clear HB
       have HO_15 := n0_
       have HO_268003 := n1_
       have HO_268004 := n2_
       have HO_268005 := n3_
       have HO_281003 := n4_
       have HO_281004 := n5_
       have HO_281005 := n6_
       have HO292 := n7_
       have HO295 := n8_
       have HO298 := n9_
       have BK221 := n10_
       have BK222 := n11_
       have BK267 := n12_
       have BK280 := n13_
       have HB := n14_
       clear n0_ n1_ n2_ n3_ n4_ n5_ n6_ n7_ n8_ n9_ n10_ n11_ n12_ n13_ n14_
       (try clear hb)
       (try clear hb2)
       (try clear hk)
       (try clear hi)
       refine hK.out _ _ (ca6x8 BK267.out (cc6x8 BK221.out)) (fun hHeld => ?_)
       clear hK K
       refine norm_ (a' := ?_) ?_ ?_
       rotate_left
       ·show Act.put _ (some 75) _ = _
        simp only [Act.put, List.setIfInBounds_toArray, List.set_cons_zero, List.set_cons_succ, i64_w, i32_w]
        rfl
       refine pure_ (i := 4) (N := some 76) (v := ?_) (a' := ?_) #[true, true, true, true, true] rfl rfl (by kernel_rfl) (fun _ _ _ h => h) (Or.inl ⟨by rfl, ?_⟩) ?_ ?_
       rotate_left
       ·intro w'
        go_simp
        with_reducible rfl
       rotate_left
       ·simp only [Act.put, List.setIfInBounds_toArray, List.set_cons_zero, List.set_cons_succ, i64_w, i32_w]
        rfl
       refine done_ (by kernel_rfl) ?_
       go_upto_if 76 with (fail)
       go_cut [] (fun wc => ∃ (kq : Nat), Aside0 (laws_FnExactFactorOf.j1 kq l2 t281 a1_0 a1_1 a1_2 l1_3 l1_4 l1_5 t268 t269 t270 t271 t274 t277 = some r) ∧ Aside0 (kq ≤ kj31) ∧ Aside0 (Kd.R (Kd.int .i64) 3 wc w.heap.size (fun k_ => some k_ ≠ ((.slice Ao58 t258.length co58) : Value).ownBlock ∧ some k_ ≠ ((.slice Ao59 t261.length co59) : Value).ownBlock ∧ some k_ ≠ ((.slice Ao60 t264.length co60) : Value).ownBlock ∧ some k_ ≠ ((.slice Ao68 t271.length co68) : Value).ownBlock ∧ some k_ ≠ ((.slice Ao69 t274.length co69) : Value).ownBlock ∧ some k_ ≠ ((.slice Ao70 t277.length co70) : Value).ownBlock) (.slice Ao74 t281.length co74) t281) ∧ Aside0 (Kd.R (Kd.int .i64) 3 wc w.heap.size (fun k_ => some k_ ≠ ((.slice Ao74 t281.length co74) : Value).ownBlock ∧ some k_ ≠ ((.slice Ao59 t261.length co59) : Value).ownBlock ∧ some k_ ≠ ((.slice Ao60 t264.length co60) : Value).ownBlock ∧ some k_ ≠ ((.slice Ao68 t271.length co68) : Value).ownBlock ∧ some k_ ≠ ((.slice Ao69 t274.length co69) : Value).ownBlock ∧ some k_ ≠ ((.slice Ao70 t277.length co70) : Value).ownBlock) (.slice Ao58 t258.length co58) t258) ∧ Aside0 (Kd.R (Kd.int .i64) 3 wc w.heap.size (fun k_ => some k_ ≠ ((.slice Ao74 t281.length co74) : Value).ownBlock ∧ some k_ ≠ ((.slice Ao58 t258.length co58) : Value).ownBlock ∧ some k_ ≠ ((.slice Ao60 t264.length co60) : Value).ownBlock ∧ some k_ ≠ ((.slice Ao68 t271.length co68) : Value).ownBlock ∧ some k_ ≠ ((.slice Ao69 t274.length co69) : Value).ownBlock ∧ some k_ ≠ ((.slice Ao70 t277.length co70) : Value).ownBlock) (.slice Ao59 t261.length co59) t261) ∧ Aside0 (Kd.R (Kd.int .i64) 3 wc w.heap.size (fun k_ => some k_ ≠ ((.slice Ao74 t281.length co74) : Value).ownBlock ∧ some k_ ≠ ((.slice Ao58 t258.length co58) : Value).ownBlock ∧ some k_ ≠ ((.slice Ao59 t261.length co59) : Value).ownBlock ∧ some k_ ≠ ((.slice Ao68 t271.length co68) : Value).ownBlock ∧ some k_ ≠ ((.slice Ao69 t274.length co69) : Value).ownBlock ∧ some k_ ≠ ((.slice Ao70 t277.length co70) : Value).ownBlock) (.slice Ao60 t264.length co60) t264) ∧ Aside0 (Kd.R (Kd.int .i64) 3 wc w.heap.size (fun k_ => some k_ ≠ ((.slice Ao74 t281.length co74) : Value).ownBlock ∧ some k_ ≠ ((.slice Ao58 t258.length co58) : Value).ownBlock ∧ some k_ ≠ ((.slice Ao59 t261.length co59) : Value).ownBlock ∧ some k_ ≠ ((.slice Ao60 t264.length co60) : Value).ownBlock ∧ some k_ ≠ ((.slice Ao69 t274.length co69) : Value).ownBlock ∧ some k_ ≠ ((.slice Ao70 t277.length co70) : Value).ownBlock) (.slice Ao68 t271.length co68) t271) ∧ Aside0 (Kd.R (Kd.int .i64) 3 wc w.heap.size (fun k_ => some k_ ≠ ((.slice Ao74 t281.length co74) : Value).ownBlock ∧ some k_ ≠ ((.slice Ao58 t258.length co58) : Value).ownBlock ∧ some k_ ≠ ((.slice Ao59 t261.length co59) : Value).ownBlock ∧ some k_ ≠ ((.slice Ao60 t264.length co60) : Value).ownBlock ∧ some k_ ≠ ((.slice Ao68 t271.length co68) : Value).ownBlock ∧ some k_ ≠ ((.slice Ao70 t277.length co70) : Value).ownBlock) (.slice Ao69 t274.length co69) t274) ∧ Aside0 (Kd.R (Kd.int .i64) 3 wc w.heap.size (fun k_ => some k_ ≠ ((.slice Ao74 t281.length co74) : Value).ownBlock ∧ some k_ ≠ ((.slice Ao58 t258.length co58) : Value).ownBlock ∧ some k_ ≠ ((.slice Ao59 t261.length co59) : Value).ownBlock ∧ some k_ ≠ ((.slice Ao60 t264.length co60) : Value).ownBlock ∧ some k_ ≠ ((.slice Ao68 t271.length co68) : Value).ownBlock ∧ some k_ ≠ ((.slice Ao69 t274.length co69) : Value).ownBlock) (.slice Ao70 t277.length co70) t277) ∧ Aside0 (wc.heap[gb221]? = some (.cells #[.int .i64 a0_0, .int .i64 a0_1, .int .i64 a0_2, (.slice A0_3 l0_3.length c0_3), (.slice A0_4 l0_4.length c0_4), (.slice A0_5 l0_5.length c0_5)] 26 (0, 0))) ∧ Aside0 (wc.heap[gb222]? = some (.cells #[.int .i64 a1_0, .int .i64 a1_1, .int .i64 a1_2, (.slice A1_3 l1_3.length c1_3), (.slice A1_4 l1_4.length c1_4), (.slice A1_5 l1_5.length c1_5)] 26 (0, 0))) ∧ Aside0 (wc.heap[gb267]? = some (.cells #[.int .i64 t255, .int .i64 t256, .int .i64 t257, (.slice Ao58 t258.length co58), (.slice Ao59 t261.length co59), (.slice Ao60 t264.length co60)] 41 (0, 0))) ∧ Aside0 (wc.heap[gb280]? = some (.cells #[.int .i64 t268, .int .i64 t269, .int .i64 t270, (.slice Ao68 t271.length co68), (.slice Ao69 t274.length co69), (.slice Ao70 t277.length co70)] 41 (0, 0))) ∧ Aside0 (Below w.heap.size w wc))
       case first =>
        have H := HC81.out
        clear HC81
        by_cases c88 : t299 = true
        ·subst c88
         have H1 : (laws_FnExactFactorOf.j1 kj31 l2 t281 a1_0 a1_1 a1_2 l1_3 l1_4 l1_5 t268 t269 t270 t271 t274 t277) = some r := by rw [if_pos rfl] at H; exact H
         clear H
         have H := H1
         clear H1
         have H' := Aside0.mk H
         clear H
         go_wp2
         go_meet
         case rel => exact ⟨_, H', ⟨by have := HJ31.out; first | omega | exact Nat.le_refl _⟩, ⟨by exact rRx8 (Kd.R_mono HO_15.out (fun _ hk => ⟨hk.1.1.1.1, ⟨hk.1.1.1.2.1, ⟨hk.1.1.1.2.2.1, ⟨hk.1.1.1.2.2.2.1, ⟨hk.1.1.1.2.2.2.2.1, hk.1.1.1.2.2.2.2.2⟩⟩⟩⟩⟩))⟩, ⟨by exact rRx8 (Kd.R_mono HO_268003.out (fun _ hk => ⟨hk.1.1.1.1, ⟨hk.1.1.1.2.1, ⟨hk.1.1.1.2.2.1, ⟨hk.1.1.1.2.2.2.1, ⟨hk.1.1.1.2.2.2.2.1, hk.1.1.1.2.2.2.2.2⟩⟩⟩⟩⟩))⟩, ⟨by exact rRx8 (Kd.R_mono HO_268004.out (fun _ hk => ⟨hk.1.1.1.1, ⟨hk.1.1.1.2.1, ⟨hk.1.1.1.2.2.1, ⟨hk.1.1.1.2.2.2.1, ⟨hk.1.1.1.2.2.2.2.1, hk.1.1.1.2.2.2.2.2⟩⟩⟩⟩⟩))⟩, ⟨by exact rRx8 (Kd.R_mono HO_268005.out (fun _ hk => ⟨hk.1.1.1.1, ⟨hk.1.1.1.2.1, ⟨hk.1.1.1.2.2.1, ⟨hk.1.1.1.2.2.2.1, ⟨hk.1.1.1.2.2.2.2.1, hk.1.1.1.2.2.2.2.2⟩⟩⟩⟩⟩))⟩, ⟨by exact rRx8 (Kd.R_mono HO_281003.out (fun _ hk => ⟨hk.1.1.1.1, ⟨hk.1.1.1.2.1, ⟨hk.1.1.1.2.2.1, ⟨hk.1.1.1.2.2.2.1, ⟨hk.1.1.1.2.2.2.2.1, hk.1.1.1.2.2.2.2.2⟩⟩⟩⟩⟩))⟩, ⟨by exact rRx8 (Kd.R_mono HO_281004.out (fun _ hk => ⟨hk.1.1.1.1, ⟨hk.1.1.1.2.1, ⟨hk.1.1.1.2.2.1, ⟨hk.1.1.1.2.2.2.1, ⟨hk.1.1.1.2.2.2.2.1, hk.1.1.1.2.2.2.2.2⟩⟩⟩⟩⟩))⟩, ⟨by exact rRx8 (Kd.R_mono HO_281005.out (fun _ hk => ⟨hk.1.1.1.1, ⟨hk.1.1.1.2.1, ⟨hk.1.1.1.2.2.1, ⟨hk.1.1.1.2.2.2.1, ⟨hk.1.1.1.2.2.2.2.1, hk.1.1.1.2.2.2.2.2⟩⟩⟩⟩⟩))⟩, ⟨rBx8 BK221.out⟩, ⟨rBx8 BK222.out⟩, ⟨rBx8 BK267.out⟩, ⟨rBx8 BK280.out⟩, ⟨be4x8 HB.out GE221.out GE222.out GE267.out GE280.out⟩⟩
        ·replace c88 := Bool.eq_false_iff.mpr c88
         subst c88
         have H1 : (some false) = some r := by rw [if_neg (show ¬ (false = true) by decide)] at H; exact H
         clear H
         have H := H1
         clear H1
         obtain rfl := Option.some.inj H
         go_wp2
         go_ret
         exact ⟨by first | rfl | (simp [errW_none, errW_some] <;> rfl) | (simp [*, errW_none, errW_some] <;> rfl), be4x8 HB.out GE221.out GE222.out GE267.out GE280.out⟩
       case rest =>
        clear HC81
        try clear c78; try clear c88
        obtain ⟨kq, HA, HJ80, HO_15, HO_268003, HO_268004, HO_268005, HO_281003, HO_281004, HO_281005, BK221, BK222, BK267, BK280, HB⟩ := hcut
        cases kq with
        | zero => exact absurd HA.out (by simp [laws_FnExactFactorOf.j1])
        | succ kj80 =>
         have H := HA.out
         clear HA
         simp only [laws_FnExactFactorOf.j1] at H
         replace H := Option.bind_eq_some_iff.mp H
         obtain ⟨⟨t300, t301, t302, t303, t306, t309⟩, A890, H⟩ := H
         (try dsimp only at H)
         have A89 := Aside0.mk A890
         clear A890
         replace H := Option.bind_eq_some_iff.mp H
         obtain ⟨t312, A900, H⟩ := H
         have A90 := Aside0.mk A900
         clear A900
         have HC91 := Aside0.mk H
         clear H
         try go_wp2
         have n0_ := Aside0.mk (Kd.R_drew HO_15.out)
         have n1_ := Aside0.mk (Kd.R_drew HO_268003.out)
         have n2_ := Aside0.mk (Kd.R_drew HO_268004.out)
         have n3_ := Aside0.mk (Kd.R_drew HO_268005.out)
         have n4_ := Aside0.mk (Kd.R_drew HO_281003.out)
         have n5_ := Aside0.mk (Kd.R_drew HO_281004.out)
         have n6_ := Aside0.mk (Kd.R_drew HO_281005.out)
         have n7_ := Aside0.mk (blk_drew BK221.out)
         have n8_ := Aside0.mk (blk_drew BK222.out)
         have n9_ := Aside0.mk (blk_drew BK267.out)
         have n10_ := Aside0.mk (blk_drew BK280.out)
         have n11_ := Aside0.mk (below_drew1 HB.out)
         clear HO_15
         clear HO_268003
         clear HO_268004
         clear HO_268005
         clear HO_281003
         clear HO_281004
         clear HO_281005
         clear BK221
         clear BK222
         clear BK267
         clear BK280
         clear HB
         have HO_15 := n0_
         have HO_268003 := n1_
         have HO_268004 := n2_
         have HO_268005 := n3_
         have HO_281003 := n4_
         have HO_281004 := n5_
         have HO_281005 := n6_
         have BK221 := n7_
         have BK222 := n8_
         have BK267 := n9_
         have BK280 := n10_
         have HB := n11_
         clear n0_ n1_ n2_ n3_ n4_ n5_ n6_ n7_ n8_ n9_ n10_ n11_
         refine start_ (n := 5) (S := fun w' => w'.cell? ⟨gb280, 0, none⟩ = some (.int .i64 t268) ∧ w'.cell? ⟨gb280, 1, none⟩ = some (.int .i64 t269) ∧ w'.cell? ⟨gb280, 2, none⟩ = some (.int .i64 t270) ∧ w'.cell? ⟨gb280, 3, none⟩ = some (.slice Ao68 t271.length co68) ∧ w'.cell? ⟨gb280, 4, none⟩ = some (.slice Ao69 t274.length co69) ∧ w'.cell? ⟨gb280, 5, none⟩ = some (.slice Ao70 t277.length co70) ∧ w'.cell? ⟨gb222, 0, none⟩ = some (.int .i64 a1_0) ∧ w'.cell? ⟨gb222, 1, none⟩ = some (.int .i64 a1_1) ∧ w'.cell? ⟨gb222, 2, none⟩ = some (.int .i64 a1_2) ∧ w'.cell? ⟨gb222, 3, none⟩ = some (.slice A1_3 l1_3.length c1_3) ∧ w'.cell? ⟨gb222, 4, none⟩ = some (.slice A1_4 l1_4.length c1_4) ∧ w'.cell? ⟨gb222, 5, none⟩ = some (.slice A1_5 l1_5.length c1_5)) (ds := []) #[false, false, false, false, false] (by kernel_rfl) rfl rfl (ca6x8 BK280.out (cc6x8 BK222.out)) (fun hHeld => ?_)
         generalize wc.drew = w92 at HO_15 HO_268003 HO_268004 HO_268005 HO_281003 HO_281004 HO_281005 BK221 BK222 BK267 BK280 HB hHeld ⊢
         refine take_ (i := 0) (N := some 77) (v := ?_) (a' := ?_) #[true, false, false, false, false] rfl rfl (by kernel_rfl) (fun _ _ _ h => h) (Or.inl ⟨by rfl, ?_⟩) hHeld ?_ ?_
         rotate_left
         ·rintro w' ⟨s0, s1, s2, s3, s4, s5, s6, s7, s8, s9, s10, s11⟩
          go_simp
          with_reducible rfl
         rotate_left
         ·simp only [Act.put, List.setIfInBounds_toArray, List.set_cons_zero, List.set_cons_succ, i64_w, i32_w]
          rfl
         refine take_ (i := 1) (N := some 78) (v := ?_) (a' := ?_) #[true, true, false, false, false] rfl rfl (by kernel_rfl) (fun _ _ _ h => h) (Or.inl ⟨by rfl, ?_⟩) hHeld ?_ ?_
         rotate_left
         ·rintro w' ⟨s0, s1, s2, s3, s4, s5, s6, s7, s8, s9, s10, s11⟩
          go_simp
          with_reducible rfl
         rotate_left
         ·simp only [Act.put, List.setIfInBounds_toArray, List.set_cons_zero, List.set_cons_succ, i64_w, i32_w]
          rfl
         refine one_ (i := 2) (N := some 79) #[true, true, true, false, false] rfl rfl (by kernel_rfl) (by decide) (fun K hK => ?_)
         refine goes_ Try.func19 (by kernel_rfl) rfl #[.agg #[.int .i64 a1_0, .int .i64 a1_1, .int .i64 a1_2, .slice A1_3 l1_3.length c1_3, .slice A1_4 l1_4.length c1_4, .slice A1_5 l1_5.length c1_5]] (by rfl) rfl rfl mpx8 ?_
         with_reducible refine (laws_toModel.calls kj80 a1_0 a1_1 a1_2 _ _ l1_3 _ _ l1_4 _ _ l1_5 t300 t301 t302 t303 t306 t309 _ ?side1 ?side2 ?side3 ?side4 ?side5 ?side6 A89.out).mono ?_
         (case side1 => exact rCx8 (Kd.C_below HR1_3.out HB.out))
         (case side2 => exact HC1_3.out)
         (case side3 => exact rCx8 (Kd.C_below HR1_4.out HB.out))
         (case side4 => exact HC1_4.out)
         (case side5 => exact rCx8 (Kd.C_below HR1_5.out HB.out))
         (case side6 => exact HC1_5.out)
         rintro e w93 ⟨v304, v307, v310, rfl, ho0, ho1, ho2, hb⟩
         refine ⟨_, rfl, ?_⟩
         have n0_ := Aside0.mk (kp3x8 (rRx8 HO_15.out) hb ho0 ho1 ho2)
         have n1_ := Aside0.mk (kp3x8 (rRx8 HO_268003.out) hb ho0 ho1 ho2)
         have n2_ := Aside0.mk (kp3x8 (rRx8 HO_268004.out) hb ho0 ho1 ho2)
         have n3_ := Aside0.mk (kp3x8 (rRx8 HO_268005.out) hb ho0 ho1 ho2)
         have n4_ := Aside0.mk (kp3x8 (rRx8 HO_281003.out) hb ho0 ho1 ho2)
         have n5_ := Aside0.mk (kp3x8 (rRx8 HO_281004.out) hb ho0 ho1 ho2)
         have n6_ := Aside0.mk (kp3x8 (rRx8 HO_281005.out) hb ho0 ho1 ho2)
         have n7_ := Aside0.mk (Kd.R_lower (Kd.R_new' (Kd.R_new' (Kd.R_new' (Kd.R_new' (Kd.R_new' (Kd.R_new' (Kd.R_new' ho0 (Kd.R_lt (rRx8 HO_15.out))) (Kd.R_lt (rRx8 HO_268003.out))) (Kd.R_lt (rRx8 HO_268004.out))) (Kd.R_lt (rRx8 HO_268005.out))) (Kd.R_lt (rRx8 HO_281003.out))) (Kd.R_lt (rRx8 HO_281004.out))) (Kd.R_lt (rRx8 HO_281005.out))) (below_size (be4x8 HB.out GE221.out GE222.out GE267.out GE280.out)))
         have n8_ := Aside0.mk (Kd.R_lower (Kd.R_new' (Kd.R_new' (Kd.R_new' (Kd.R_new' (Kd.R_new' (Kd.R_new' (Kd.R_new' ho1 (Kd.R_lt (rRx8 HO_15.out))) (Kd.R_lt (rRx8 HO_268003.out))) (Kd.R_lt (rRx8 HO_268004.out))) (Kd.R_lt (rRx8 HO_268005.out))) (Kd.R_lt (rRx8 HO_281003.out))) (Kd.R_lt (rRx8 HO_281004.out))) (Kd.R_lt (rRx8 HO_281005.out))) (below_size (be4x8 HB.out GE221.out GE222.out GE267.out GE280.out)))
         have n9_ := Aside0.mk (Kd.R_lower (Kd.R_new' (Kd.R_new' (Kd.R_new' (Kd.R_new' (Kd.R_new' (Kd.R_new' (Kd.R_new' ho2 (Kd.R_lt (rRx8 HO_15.out))) (Kd.R_lt (rRx8 HO_268003.out))) (Kd.R_lt (rRx8 HO_268004.out))) (Kd.R_lt (rRx8 HO_268005.out))) (Kd.R_lt (rRx8 HO_281003.out))) (Kd.R_lt (rRx8 HO_281004.out))) (Kd.R_lt (rRx8 HO_281005.out))) (below_size (be4x8 HB.out GE221.out GE222.out GE267.out GE280.out)))
         have n10_ := Aside0.mk (blk_below (g := gb221) (o := .cells #[.int .i64 a0_0, .int .i64 a0_1, .int .i64 a0_2, .slice A0_3 l0_3.length c0_3, .slice A0_4 l0_4.length c0_4, .slice A0_5 l0_5.length c0_5] 26 (0, 0)) (rBx8 BK221.out) hb)
         have n11_ := Aside0.mk (blk_below (g := gb222) (o := .cells #[.int .i64 a1_0, .int .i64 a1_1, .int .i64 a1_2, .slice A1_3 l1_3.length c1_3, .slice A1_4 l1_4.length c1_4, .slice A1_5 l1_5.length c1_5] 26 (0, 0)) (rBx8 BK222.out) hb)
         have n12_ := Aside0.mk (blk_below (g := gb267) (o := .cells #[.int .i64 t255, .int .i64 t256, .int .i64 t257, .slice Ao58 t258.length co58, .slice Ao59 t261.length co59, .slice Ao60 t264.length co60] 41 (0, 0)) (rBx8 BK267.out) hb)
         have n13_ := Aside0.mk (blk_below (g := gb280) (o := .cells #[.int .i64 t268, .int .i64 t269, .int .i64 t270, .slice Ao68 t271.length co68, .slice Ao69 t274.length co69, .slice Ao70 t277.length co70] 41 (0, 0)) (rBx8 BK280.out) hb)
         have n14_ := Aside0.mk (below_step (be4x8 HB.out GE221.out GE222.out GE267.out GE280.out) hb)
         clear HO_15
         clear HO_268003
         clear HO_268004
         clear HO_268005
         clear HO_281003
         clear HO_281004
         clear HO_281005
         clear BK221
         clear BK222
         clear BK267
         clear BK280
         clear HB
         have HO_15 := n0_
         have HO_268003 := n1_
         have HO_268004 := n2_
         have HO_268005 := n3_
         have HO_281003 := n4_
         have HO_281004 := n5_
         have HO_281005 := n6_
         have HO305 := n7_
         have HO308 := n8_
         have HO311 := n9_
         have BK221 := n10_
         have BK222 := n11_
         have BK267 := n12_
         have BK280 := n13_
         have HB := n14_
         clear n0_ n1_ n2_ n3_ n4_ n5_ n6_ n7_ n8_ n9_ n10_ n11_ n12_ n13_ n14_
         (try clear hb)
         (try clear hb2)
         (try clear hk)
         (try clear hi)
         (try clear ho0)
         (try clear ho1)
         (try clear ho2)
         obtain ⟨Ao94, co94, eo94⟩ := Kd.R_slice HO305.out
         (first | subst eo94 | (injection eo94 with f1_ f2_ f3_; have f4_ := f1_.symm; have f5_ := f3_.symm; clear f1_ f2_ f3_; subst f4_; subst f5_))
         obtain ⟨Ao95, co95, eo95⟩ := Kd.R_slice HO308.out
         (first | subst eo95 | (injection eo95 with f1_ f2_ f3_; have f4_ := f1_.symm; have f5_ := f3_.symm; clear f1_ f2_ f3_; subst f4_; subst f5_))
         obtain ⟨Ao96, co96, eo96⟩ := Kd.R_slice HO311.out
         (first | subst eo96 | (injection eo96 with f1_ f2_ f3_; have f4_ := f1_.symm; have f5_ := f3_.symm; clear f1_ f2_ f3_; subst f4_; subst f5_))
         refine hK.out _ _ (ca6x8 BK280.out (cc6x8 BK222.out)) (fun hHeld => ?_)
         clear hK K
         refine norm_ (a' := ?_) ?_ ?_
         rotate_left
         ·show Act.put _ (some 79) _ = _
          simp only [Act.put, List.setIfInBounds_toArray, List.set_cons_zero, List.set_cons_succ, i64_w, i32_w]
          rfl
         refine one_ (i := 3) (N := some 80) #[true, true, true, true, false] rfl rfl (by kernel_rfl) (by decide) (fun K hK => ?_)
         refine goes_ Try.func24 (by kernel_rfl) rfl #[.agg #[.int .i64 t268, .int .i64 t269, .int .i64 t270, .slice Ao68 t271.length co68, .slice Ao69 t274.length co69, .slice Ao70 t277.length co70], .agg #[.int .i64 t300, .int .i64 t301, .int .i64 t302, .slice Ao94 t303.length co94, .slice Ao95 t306.length co95, .slice Ao96 t309.length co96]] (by rfl) rfl rfl mpx8 ?_
         with_reducible refine (laws_eqModel.calls kj80 t268 t269 t270 _ _ t271 _ _ t274 _ _ t277 t300 t301 t302 _ _ t303 _ _ t306 _ _ t309 t312 _ ?side1 ?side2 ?side3 ?side4 ?side5 ?side6 ?side7 ?side8 ?side9 ?side10 ?side11 ?side12 A90.out).mono ?_
         (case side1 => exact cRx8 HO_281003.out)
         (case side2 => exact (Kd.R_reads' HO_281003.out).2.1)
         (case side3 => exact cRx8 HO_281004.out)
         (case side4 => exact (Kd.R_reads' HO_281004.out).2.1)
         (case side5 => exact cRx8 HO_281005.out)
         (case side6 => exact (Kd.R_reads' HO_281005.out).2.1)
         (case side7 => exact cRx8 HO305.out)
         (case side8 => exact (Kd.R_reads' HO305.out).2.1)
         (case side9 => exact cRx8 HO308.out)
         (case side10 => exact (Kd.R_reads' HO308.out).2.1)
         (case side11 => exact cRx8 HO311.out)
         (case side12 => exact (Kd.R_reads' HO311.out).2.1)
         rintro e w97 ⟨rfl, hb⟩
         refine ⟨_, rfl, ?_⟩
         have n0_ := Aside0.mk (Kd.R_below (rRx8 HO_15.out) hb)
         have n1_ := Aside0.mk (Kd.R_below (rRx8 HO_268003.out) hb)
         have n2_ := Aside0.mk (Kd.R_below (rRx8 HO_268004.out) hb)
         have n3_ := Aside0.mk (Kd.R_below (rRx8 HO_268005.out) hb)
         have n4_ := Aside0.mk (Kd.R_below (rRx8 HO_281003.out) hb)
         have n5_ := Aside0.mk (Kd.R_below (rRx8 HO_281004.out) hb)
         have n6_ := Aside0.mk (Kd.R_below (rRx8 HO_281005.out) hb)
         have n7_ := Aside0.mk (Kd.R_below (rRx8 HO305.out) hb)
         have n8_ := Aside0.mk (Kd.R_below (rRx8 HO308.out) hb)
         have n9_ := Aside0.mk (Kd.R_below (rRx8 HO311.out) hb)
         have n10_ := Aside0.mk (blk_below (g := gb221) (o := .cells #[.int .i64 a0_0, .int .i64 a0_1, .int .i64 a0_2, .slice A0_3 l0_3.length c0_3, .slice A0_4 l0_4.length c0_4, .slice A0_5 l0_5.length c0_5] 26 (0, 0)) (rBx8 BK221.out) hb)
         have n11_ := Aside0.mk (blk_below (g := gb222) (o := .cells #[.int .i64 a1_0, .int .i64 a1_1, .int .i64 a1_2, .slice A1_3 l1_3.length c1_3, .slice A1_4 l1_4.length c1_4, .slice A1_5 l1_5.length c1_5] 26 (0, 0)) (rBx8 BK222.out) hb)
         have n12_ := Aside0.mk (blk_below (g := gb267) (o := .cells #[.int .i64 t255, .int .i64 t256, .int .i64 t257, .slice Ao58 t258.length co58, .slice Ao59 t261.length co59, .slice Ao60 t264.length co60] 41 (0, 0)) (rBx8 BK267.out) hb)
         have n13_ := Aside0.mk (blk_below (g := gb280) (o := .cells #[.int .i64 t268, .int .i64 t269, .int .i64 t270, .slice Ao68 t271.length co68, .slice Ao69 t274.length co69, .slice Ao70 t277.length co70] 41 (0, 0)) (rBx8 BK280.out) hb)
         have n14_ := Aside0.mk (below_step (be4x8 HB.out GE221.out GE222.out GE267.out GE280.out) hb)
         clear HO_15
         clear HO_268003
         clear HO_268004
         clear HO_268005
         clear HO_281003
         clear HO_281004
         clear HO_281005
         clear HO305
         clear HO308
         clear HO311
         clear BK221
         clear BK222
         clear BK267
         clear BK280
         clear HB
         have HO_15 := n0_
         have HO_268003 := n1_
         have HO_268004 := n2_
         have HO_268005 := n3_
         have HO_281003 := n4_
         have HO_281004 := n5_
         have HO_281005 := n6_
         have HO305 := n7_
         have HO308 := n8_
         have HO311 := n9_
         have BK221 := n10_
         have BK222 := n11_
         have BK267 := n12_
         have BK280 := n13_
         have HB := n14_
         clear n0_ n1_ n2_ n3_ n4_ n5_ n6_ n7_ n8_ n9_ n10_ n11_ n12_ n13_ n14_
         (try clear hb)
         (try clear hb2)
         (try clear hk)
         (try clear hi)
         refine hK.out _ _ (ca6x8 BK280.out (cc6x8 BK222.out)) (fun hHeld => ?_)
         clear hK K
         refine norm_ (a' := ?_) ?_ ?_
         rotate_left
         ·show Act.put _ (some 80) _ = _
          simp only [Act.put, List.setIfInBounds_toArray, List.set_cons_zero, List.set_cons_succ, i64_w, i32_w]
          rfl
         refine pure_ (i := 4) (N := some 81) (v := ?_) (a' := ?_) #[true, true, true, true, true] rfl rfl (by kernel_rfl) (fun _ _ _ h => h) (Or.inl ⟨by rfl, ?_⟩) ?_ ?_
         rotate_left
         ·intro w'
          go_simp
          with_reducible rfl
         rotate_left
         ·simp only [Act.put, List.setIfInBounds_toArray, List.set_cons_zero, List.set_cons_succ, i64_w, i32_w]
          rfl
         refine done_ (by kernel_rfl) ?_
         go_upto_if 81 with (fail)
         go_cut [] (fun wc => ∃ (kq : Nat), Aside0 (laws_FnExactFactorOf.j2 kq l2 t281 = some r) ∧ Aside0 (kq ≤ kj80) ∧ Aside0 (Kd.R (Kd.int .i64) 3 wc w.heap.size (fun k_ => some k_ ≠ ((.slice Ao58 t258.length co58) : Value).ownBlock ∧ some k_ ≠ ((.slice Ao59 t261.length co59) : Value).ownBlock ∧ some k_ ≠ ((.slice Ao60 t264.length co60) : Value).ownBlock ∧ some k_ ≠ ((.slice Ao68 t271.length co68) : Value).ownBlock ∧ some k_ ≠ ((.slice Ao69 t274.length co69) : Value).ownBlock ∧ some k_ ≠ ((.slice Ao70 t277.length co70) : Value).ownBlock) (.slice Ao74 t281.length co74) t281) ∧ Aside0 (Kd.R (Kd.int .i64) 3 wc w.heap.size (fun k_ => some k_ ≠ ((.slice Ao74 t281.length co74) : Value).ownBlock ∧ some k_ ≠ ((.slice Ao59 t261.length co59) : Value).ownBlock ∧ some k_ ≠ ((.slice Ao60 t264.length co60) : Value).ownBlock ∧ some k_ ≠ ((.slice Ao68 t271.length co68) : Value).ownBlock ∧ some k_ ≠ ((.slice Ao69 t274.length co69) : Value).ownBlock ∧ some k_ ≠ ((.slice Ao70 t277.length co70) : Value).ownBlock) (.slice Ao58 t258.length co58) t258) ∧ Aside0 (Kd.R (Kd.int .i64) 3 wc w.heap.size (fun k_ => some k_ ≠ ((.slice Ao74 t281.length co74) : Value).ownBlock ∧ some k_ ≠ ((.slice Ao58 t258.length co58) : Value).ownBlock ∧ some k_ ≠ ((.slice Ao60 t264.length co60) : Value).ownBlock ∧ some k_ ≠ ((.slice Ao68 t271.length co68) : Value).ownBlock ∧ some k_ ≠ ((.slice Ao69 t274.length co69) : Value).ownBlock ∧ some k_ ≠ ((.slice Ao70 t277.length co70) : Value).ownBlock) (.slice Ao59 t261.length co59) t261) ∧ Aside0 (Kd.R (Kd.int .i64) 3 wc w.heap.size (fun k_ => some k_ ≠ ((.slice Ao74 t281.length co74) : Value).ownBlock ∧ some k_ ≠ ((.slice Ao58 t258.length co58) : Value).ownBlock ∧ some k_ ≠ ((.slice Ao59 t261.length co59) : Value).ownBlock ∧ some k_ ≠ ((.slice Ao68 t271.length co68) : Value).ownBlock ∧ some k_ ≠ ((.slice Ao69 t274.length co69) : Value).ownBlock ∧ some k_ ≠ ((.slice Ao70 t277.length co70) : Value).ownBlock) (.slice Ao60 t264.length co60) t264) ∧ Aside0 (Kd.R (Kd.int .i64) 3 wc w.heap.size (fun k_ => some k_ ≠ ((.slice Ao74 t281.length co74) : Value).ownBlock ∧ some k_ ≠ ((.slice Ao58 t258.length co58) : Value).ownBlock ∧ some k_ ≠ ((.slice Ao59 t261.length co59) : Value).ownBlock ∧ some k_ ≠ ((.slice Ao60 t264.length co60) : Value).ownBlock ∧ some k_ ≠ ((.slice Ao69 t274.length co69) : Value).ownBlock ∧ some k_ ≠ ((.slice Ao70 t277.length co70) : Value).ownBlock) (.slice Ao68 t271.length co68) t271) ∧ Aside0 (Kd.R (Kd.int .i64) 3 wc w.heap.size (fun k_ => some k_ ≠ ((.slice Ao74 t281.length co74) : Value).ownBlock ∧ some k_ ≠ ((.slice Ao58 t258.length co58) : Value).ownBlock ∧ some k_ ≠ ((.slice Ao59 t261.length co59) : Value).ownBlock ∧ some k_ ≠ ((.slice Ao60 t264.length co60) : Value).ownBlock ∧ some k_ ≠ ((.slice Ao68 t271.length co68) : Value).ownBlock ∧ some k_ ≠ ((.slice Ao70 t277.length co70) : Value).ownBlock) (.slice Ao69 t274.length co69) t274) ∧ Aside0 (Kd.R (Kd.int .i64) 3 wc w.heap.size (fun k_ => some k_ ≠ ((.slice Ao74 t281.length co74) : Value).ownBlock ∧ some k_ ≠ ((.slice Ao58 t258.length co58) : Value).ownBlock ∧ some k_ ≠ ((.slice Ao59 t261.length co59) : Value).ownBlock ∧ some k_ ≠ ((.slice Ao60 t264.length co60) : Value).ownBlock ∧ some k_ ≠ ((.slice Ao68 t271.length co68) : Value).ownBlock ∧ some k_ ≠ ((.slice Ao69 t274.length co69) : Value).ownBlock) (.slice Ao70 t277.length co70) t277) ∧ Aside0 (wc.heap[gb221]? = some (.cells #[.int .i64 a0_0, .int .i64 a0_1, .int .i64 a0_2, (.slice A0_3 l0_3.length c0_3), (.slice A0_4 l0_4.length c0_4), (.slice A0_5 l0_5.length c0_5)] 26 (0, 0))) ∧ Aside0 (wc.heap[gb222]? = some (.cells #[.int .i64 a1_0, .int .i64 a1_1, .int .i64 a1_2, (.slice A1_3 l1_3.length c1_3), (.slice A1_4 l1_4.length c1_4), (.slice A1_5 l1_5.length c1_5)] 26 (0, 0))) ∧ Aside0 (wc.heap[gb267]? = some (.cells #[.int .i64 t255, .int .i64 t256, .int .i64 t257, (.slice Ao58 t258.length co58), (.slice Ao59 t261.length co59), (.slice Ao60 t264.length co60)] 41 (0, 0))) ∧ Aside0 (wc.heap[gb280]? = some (.cells #[.int .i64 t268, .int .i64 t269, .int .i64 t270, (.slice Ao68 t271.length co68), (.slice Ao69 t274.length co69), (.slice Ao70 t277.length co70)] 41 (0, 0))) ∧ Aside0 (Below w.heap.size w wc))
         case first =>
          have H := HC91.out
          clear HC91
          by_cases c98 : t312 = true
          ·subst c98
           have H1 : (laws_FnExactFactorOf.j2 kj80 l2 t281) = some r := by rw [if_pos rfl] at H; exact H
           clear H
           have H := H1
           clear H1
           have H' := Aside0.mk H
           clear H
           go_wp2
           go_meet
           case rel => exact ⟨_, H', ⟨by have := HJ31.out; have := HJ80.out; first | omega | exact Nat.le_refl _⟩, ⟨by exact rRx8 (Kd.R_mono HO_15.out (fun _ hk => ⟨hk.1.1.1.1, ⟨hk.1.1.1.2.1, ⟨hk.1.1.1.2.2.1, ⟨hk.1.1.1.2.2.2.1, ⟨hk.1.1.1.2.2.2.2.1, hk.1.1.1.2.2.2.2.2⟩⟩⟩⟩⟩))⟩, ⟨by exact rRx8 (Kd.R_mono HO_268003.out (fun _ hk => ⟨hk.1.1.1.1, ⟨hk.1.1.1.2.1, ⟨hk.1.1.1.2.2.1, ⟨hk.1.1.1.2.2.2.1, ⟨hk.1.1.1.2.2.2.2.1, hk.1.1.1.2.2.2.2.2⟩⟩⟩⟩⟩))⟩, ⟨by exact rRx8 (Kd.R_mono HO_268004.out (fun _ hk => ⟨hk.1.1.1.1, ⟨hk.1.1.1.2.1, ⟨hk.1.1.1.2.2.1, ⟨hk.1.1.1.2.2.2.1, ⟨hk.1.1.1.2.2.2.2.1, hk.1.1.1.2.2.2.2.2⟩⟩⟩⟩⟩))⟩, ⟨by exact rRx8 (Kd.R_mono HO_268005.out (fun _ hk => ⟨hk.1.1.1.1, ⟨hk.1.1.1.2.1, ⟨hk.1.1.1.2.2.1, ⟨hk.1.1.1.2.2.2.1, ⟨hk.1.1.1.2.2.2.2.1, hk.1.1.1.2.2.2.2.2⟩⟩⟩⟩⟩))⟩, ⟨by exact rRx8 (Kd.R_mono HO_281003.out (fun _ hk => ⟨hk.1.1.1.1, ⟨hk.1.1.1.2.1, ⟨hk.1.1.1.2.2.1, ⟨hk.1.1.1.2.2.2.1, ⟨hk.1.1.1.2.2.2.2.1, hk.1.1.1.2.2.2.2.2⟩⟩⟩⟩⟩))⟩, ⟨by exact rRx8 (Kd.R_mono HO_281004.out (fun _ hk => ⟨hk.1.1.1.1, ⟨hk.1.1.1.2.1, ⟨hk.1.1.1.2.2.1, ⟨hk.1.1.1.2.2.2.1, ⟨hk.1.1.1.2.2.2.2.1, hk.1.1.1.2.2.2.2.2⟩⟩⟩⟩⟩))⟩, ⟨by exact rRx8 (Kd.R_mono HO_281005.out (fun _ hk => ⟨hk.1.1.1.1, ⟨hk.1.1.1.2.1, ⟨hk.1.1.1.2.2.1, ⟨hk.1.1.1.2.2.2.1, ⟨hk.1.1.1.2.2.2.2.1, hk.1.1.1.2.2.2.2.2⟩⟩⟩⟩⟩))⟩, ⟨rBx8 BK221.out⟩, ⟨rBx8 BK222.out⟩, ⟨rBx8 BK267.out⟩, ⟨rBx8 BK280.out⟩, ⟨be4x8 HB.out GE221.out GE222.out GE267.out GE280.out⟩⟩
          ·replace c98 := Bool.eq_false_iff.mpr c98
           subst c98
           have H1 : (some false) = some r := by rw [if_neg (show ¬ (false = true) by decide)] at H; exact H
           clear H
           have H := H1
           clear H1
           obtain rfl := Option.some.inj H
           go_wp2
           go_ret
           exact ⟨by first | rfl | (simp [errW_none, errW_some] <;> rfl) | (simp [*, errW_none, errW_some] <;> rfl), be4x8 HB.out GE221.out GE222.out GE267.out GE280.out⟩
         case rest =>
          clear HC91
          try clear c98
          obtain ⟨kq, HA, HJ90, HO_15, HO_268003, HO_268004, HO_268005, HO_281003, HO_281004, HO_281005, BK221, BK222, BK267, BK280, HB⟩ := hcut
          cases kq with
          | zero => exact absurd HA.out (by simp [laws_FnExactFactorOf.j2])
          | succ kj90 =>
           have H := HA.out
           clear HA
           simp only [laws_FnExactFactorOf.j2] at H
           replace H := Option.bind_eq_some_iff.mp H
           obtain ⟨t313, A990, H⟩ := H
           have A99 := Aside0.mk A990
           clear A990
           replace H := Option.bind_eq_some_iff.mp H
           obtain ⟨t316, A1000, H⟩ := H
           have A100 := Aside0.mk A1000
           clear A1000
           by_cases c101 : t316 = true
           ·subst c101
            have H1 : (some true) = some r := by rw [if_pos rfl] at H; exact H
            clear H
            have H := H1
            clear H1
            obtain rfl := Option.some.inj H
            go_wp2_with (first | ((with_reducible refine gate_callee (f := 46) rfl ?_); refine goesL_ (some 84) rfl rfl Try.func46 (by kernel_rfl) rfl #[.slice A2 l2.length c2] rfl mpx8 ?_; (with_reducible refine (laws_toIntS.calls kj90 _ _ l2 t313 _ ?side1 ?side2 A99.out).mono ?_); (case side1 => exact rCx8 (Kd.C_below HR2.out HB.out)); (case side2 => exact HC2.out); rintro e w102 ⟨v314, rfl, ho0, hb⟩; refine ⟨_, rfl, ?_⟩; have HO315 := Aside0.mk (Kd.R_lower (Kd.R_new' (Kd.R_new' (Kd.R_new' (Kd.R_new' (Kd.R_new' (Kd.R_new' (Kd.R_new' ho0 (Kd.R_lt (rRx8 HO_15.out))) (Kd.R_lt (rRx8 HO_268003.out))) (Kd.R_lt (rRx8 HO_268004.out))) (Kd.R_lt (rRx8 HO_268005.out))) (Kd.R_lt (rRx8 HO_281003.out))) (Kd.R_lt (rRx8 HO_281004.out))) (Kd.R_lt (rRx8 HO_281005.out))) (below_size (be4x8 HB.out GE221.out GE222.out GE267.out GE280.out))); replace HO_15 := Aside0.mk (Kd.R_elder' (rRx8 HO_15.out) (Kd.R_base ho0) hb); replace HO_268003 := Aside0.mk (Kd.R_elder' (rRx8 HO_268003.out) (Kd.R_base ho0) hb); replace HO_268004 := Aside0.mk (Kd.R_elder' (rRx8 HO_268004.out) (Kd.R_base ho0) hb); replace HO_268005 := Aside0.mk (Kd.R_elder' (rRx8 HO_268005.out) (Kd.R_base ho0) hb); replace HO_281003 := Aside0.mk (Kd.R_elder' (rRx8 HO_281003.out) (Kd.R_base ho0) hb); replace HO_281004 := Aside0.mk (Kd.R_elder' (rRx8 HO_281004.out) (Kd.R_base ho0) hb); replace HO_281005 := Aside0.mk (Kd.R_elder' (rRx8 HO_281005.out) (Kd.R_base ho0) hb); replace BK221 := Aside0.mk (blk_below (g := gb221) (o := .cells #[.int .i64 a0_0, .int .i64 a0_1, .int .i64 a0_2, .slice A0_3 l0_3.length c0_3, .slice A0_4 l0_4.length c0_4, .slice A0_5 l0_5.length c0_5] 26 (0, 0)) (rBx8 BK221.out) hb); replace BK222 := Aside0.mk (blk_below (g := gb222) (o := .cells #[.int .i64 a1_0, .int .i64 a1_1, .int .i64 a1_2, .slice A1_3 l1_3.length c1_3, .slice A1_4 l1_4.length c1_4, .slice A1_5 l1_5.length c1_5] 26 (0, 0)) (rBx8 BK222.out) hb); replace BK267 := Aside0.mk (blk_below (g := gb267) (o := .cells #[.int .i64 t255, .int .i64 t256, .int .i64 t257, .slice Ao58 t258.length co58, .slice Ao59 t261.length co59, .slice Ao60 t264.length co60] 41 (0, 0)) (rBx8 BK267.out) hb); replace BK280 := Aside0.mk (blk_below (g := gb280) (o := .cells #[.int .i64 t268, .int .i64 t269, .int .i64 t270, .slice Ao68 t271.length co68, .slice Ao69 t274.length co69, .slice Ao70 t277.length co70] 41 (0, 0)) (rBx8 BK280.out) hb); replace HB := Aside0.mk (below_step (be4x8 HB.out GE221.out GE222.out GE267.out GE280.out) hb); (try clear hb); (try clear hb2); (try clear hk); (try clear hi); (try clear ho0); obtain ⟨Ao103, co103, eo103⟩ := Kd.R_slice HO315.out; subst eo103) | ((with_reducible refine gate_callee (f := 23) rfl ?_); refine goesL_ (some 85) rfl rfl Try.func23 (by kernel_rfl) rfl #[.slice Ao74 t281.length co74, .slice Ao103 t313.length co103] rfl mpx8 ?_; (with_reducible refine (laws_eqIntS.calls kj90 _ _ t281 _ _ t313 true _ ?side1 ?side2 ?side3 ?side4 A100.out).mono ?_); (case side1 => exact cRx8 HO_15.out); (case side2 => exact (Kd.R_reads' HO_15.out).2.1); (case side3 => exact cRx8 HO315.out); (case side4 => exact (Kd.R_reads' HO315.out).2.1); rintro e w' ⟨rfl, ⟨nd, rfl⟩⟩; refine ⟨_, rfl, ?_⟩))
            go_ret
            exact ⟨by first | rfl | (simp [errW_none, errW_some] <;> rfl) | (simp [*, errW_none, errW_some] <;> rfl), be4x8 HB.out GE221.out GE222.out GE267.out GE280.out⟩
           ·replace c101 := Bool.eq_false_iff.mpr c101
            subst c101
            have H1 : (some false) = some r := by rw [if_neg (show ¬ (false = true) by decide)] at H; exact H
            clear H
            have H := H1
            clear H1
            obtain rfl := Option.some.inj H
            go_wp2_with (first | ((with_reducible refine gate_callee (f := 46) rfl ?_); refine goesL_ (some 84) rfl rfl Try.func46 (by kernel_rfl) rfl #[.slice A2 l2.length c2] rfl mpx8 ?_; (with_reducible refine (laws_toIntS.calls kj90 _ _ l2 t313 _ ?side1 ?side2 A99.out).mono ?_); (case side1 => exact rCx8 (Kd.C_below HR2.out HB.out)); (case side2 => exact HC2.out); rintro e w104 ⟨v314, rfl, ho0, hb⟩; refine ⟨_, rfl, ?_⟩; have HO315 := Aside0.mk (Kd.R_lower (Kd.R_new' (Kd.R_new' (Kd.R_new' (Kd.R_new' (Kd.R_new' (Kd.R_new' (Kd.R_new' ho0 (Kd.R_lt (rRx8 HO_15.out))) (Kd.R_lt (rRx8 HO_268003.out))) (Kd.R_lt (rRx8 HO_268004.out))) (Kd.R_lt (rRx8 HO_268005.out))) (Kd.R_lt (rRx8 HO_281003.out))) (Kd.R_lt (rRx8 HO_281004.out))) (Kd.R_lt (rRx8 HO_281005.out))) (below_size (be4x8 HB.out GE221.out GE222.out GE267.out GE280.out))); replace HO_15 := Aside0.mk (Kd.R_elder' (rRx8 HO_15.out) (Kd.R_base ho0) hb); replace HO_268003 := Aside0.mk (Kd.R_elder' (rRx8 HO_268003.out) (Kd.R_base ho0) hb); replace HO_268004 := Aside0.mk (Kd.R_elder' (rRx8 HO_268004.out) (Kd.R_base ho0) hb); replace HO_268005 := Aside0.mk (Kd.R_elder' (rRx8 HO_268005.out) (Kd.R_base ho0) hb); replace HO_281003 := Aside0.mk (Kd.R_elder' (rRx8 HO_281003.out) (Kd.R_base ho0) hb); replace HO_281004 := Aside0.mk (Kd.R_elder' (rRx8 HO_281004.out) (Kd.R_base ho0) hb); replace HO_281005 := Aside0.mk (Kd.R_elder' (rRx8 HO_281005.out) (Kd.R_base ho0) hb); replace BK221 := Aside0.mk (blk_below (g := gb221) (o := .cells #[.int .i64 a0_0, .int .i64 a0_1, .int .i64 a0_2, .slice A0_3 l0_3.length c0_3, .slice A0_4 l0_4.length c0_4, .slice A0_5 l0_5.length c0_5] 26 (0, 0)) (rBx8 BK221.out) hb); replace BK222 := Aside0.mk (blk_below (g := gb222) (o := .cells #[.int .i64 a1_0, .int .i64 a1_1, .int .i64 a1_2, .slice A1_3 l1_3.length c1_3, .slice A1_4 l1_4.length c1_4, .slice A1_5 l1_5.length c1_5] 26 (0, 0)) (rBx8 BK222.out) hb); replace BK267 := Aside0.mk (blk_below (g := gb267) (o := .cells #[.int .i64 t255, .int .i64 t256, .int .i64 t257, .slice Ao58 t258.length co58, .slice Ao59 t261.length co59, .slice Ao60 t264.length co60] 41 (0, 0)) (rBx8 BK267.out) hb); replace BK280 := Aside0.mk (blk_below (g := gb280) (o := .cells #[.int .i64 t268, .int .i64 t269, .int .i64 t270, .slice Ao68 t271.length co68, .slice Ao69 t274.length co69, .slice Ao70 t277.length co70] 41 (0, 0)) (rBx8 BK280.out) hb); replace HB := Aside0.mk (below_step (be4x8 HB.out GE221.out GE222.out GE267.out GE280.out) hb); (try clear hb); (try clear hb2); (try clear hk); (try clear hi); (try clear ho0); obtain ⟨Ao105, co105, eo105⟩ := Kd.R_slice HO315.out; subst eo105) | ((with_reducible refine gate_callee (f := 23) rfl ?_); refine goesL_ (some 85) rfl rfl Try.func23 (by kernel_rfl) rfl #[.slice Ao74 t281.length co74, .slice Ao105 t313.length co105] rfl mpx8 ?_; (with_reducible refine (laws_eqIntS.calls kj90 _ _ t281 _ _ t313 false _ ?side1 ?side2 ?side3 ?side4 A100.out).mono ?_); (case side1 => exact cRx8 HO_15.out); (case side2 => exact (Kd.R_reads' HO_15.out).2.1); (case side3 => exact cRx8 HO315.out); (case side4 => exact (Kd.R_reads' HO315.out).2.1); rintro e w' ⟨rfl, ⟨nd, rfl⟩⟩; refine ⟨_, rfl, ?_⟩))
            go_ret
            exact ⟨by first | rfl | (simp [errW_none, errW_some] <;> rfl) | (simp [*, errW_none, errW_some] <;> rfl), be4x8 HB.out GE221.out GE222.out GE267.out GE280.out⟩

end Go.Proofs.Ytagnldmaglbpaaa.PFnExactFactorOf
