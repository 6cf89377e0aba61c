/- This text is this session's own, not the print's: programs (wip/squeeze.py and others) made it out of what print.sh, or wip/ownprint.py, had written (BYTES set higher), its facts said by short words. -/
import Derived.Test.YtoaglacdklmafaaPFnExactChangedBlocksx0
import Derived.Test.YtoaglacdklmafaaPFnExactChangedBlocksx2
import Derived.Test.YtoaglacdklmafaaPFnExactChangedBlocksx3
import Derived.Test.YtoaglacdklmafaaPFnExactChangedBlocksx5
import Derived.Test.YtoaglacdklmafaaPFnExactChangedBlockswx6
namespace Go.Proofs.Ytoaglacdklmafaa.PFnExactChangedBlocks
open Go.RowKit Go.Proofs.YtoaglacdklmafaaW.PrintWords Go.Proofs.YtoaglacdklmafaaW.PrintLast Go.Proofs.YtoaglacdklmafaaW.PrintMore
attribute [local go_sem] max2_int min2_int max_two min_two max_three min_three max_four min_four   -- for this text's walks alone
set_option linter.unusedVariables false
set_option linter.unusedSimpArgs false

/-! ### laws_FnExactChangedBlocks: function 6 -/
mutual
def laws_FnExactChangedBlocks.j0 : Nat → List Int → Bool → List Int → Bool → Bool → Int → Int → Int → List Int → List Int → List Int → Int → Int → Int → List Int → List Int → List Int → Int → Int → Int → List Int → List Int → List Int → Int → Int → Int → List Int → List Int → List Int → Option (Bool)
 | 0, _, _, _, _, _, _, _, _, _, _, _, _, _, _, _, _, _, _, _, _, _, _, _, _, _, _, _, _, _ => none
 | k + 1, x6, x7, x10, x11, x53, x219000, x219001, x219002, x219003, x219004, x219005, x220000, x220001, x220002, x220003, x220004, x220005, x263000, x263001, x263002, x263003, x263004, x263005, x276000, x276001, x276002, x276003, x276004, x276005 => if x53 = true then (some false) else ((laws_toModel.f k x219000 x219001 x219002 x219003 x219004 x219005).bind fun bt281 => ((laws_eqModel.f k x263000 x263001 x263002 x263003 x263004 x263005 bt281.1 bt281.2.1 bt281.2.2.1 bt281.2.2.2.1 bt281.2.2.2.2.1 bt281.2.2.2.2.2).bind fun t293 => (if t293 = true then (laws_FnExactChangedBlocks.j1 k x6 x7 x10 x11 x219000 x219001 x219002 x219003 x219004 x219005 x220000 x220001 x220002 x220003 x220004 x220005 x263000 x263001 x263002 x263003 x263004 x263005 x276000 x276001 x276002 x276003 x276004 x276005) else (some false))))
def laws_FnExactChangedBlocks.j1 : Nat → List Int → Bool → List Int → Bool → Int → Int → Int → List Int → List Int → List Int → Int → Int → Int → List Int → List Int → List Int → Int → Int → Int → List Int → List Int → List Int → Int → Int → Int → List Int → List Int → List Int → Option (Bool)
 | 0, _, _, _, _, _, _, _, _, _, _, _, _, _, _, _, _, _, _, _, _, _, _, _, _, _, _, _, _ => none
 | k + 1, x6, x7, x10, x11, x219000, x219001, x219002, x219003, x219004, x219005, x220000, x220001, x220002, x220003, x220004, x220005, x263000, x263001, x263002, x263003, x263004, x263005, x276000, x276001, x276002, x276003, x276004, x276005 => (laws_toModel.f k x220000 x220001 x220002 x220003 x220004 x220005).bind fun bt294 => ((laws_eqModel.f k x276000 x276001 x276002 x276003 x276004 x276005 bt294.1 bt294.2.1 bt294.2.2.1 bt294.2.2.2.1 bt294.2.2.2.2.1 bt294.2.2.2.2.2).bind fun t306 => (if t306 = true then (laws_FnExactChangedBlocks.j2 k x6 x7 x10 x11 x219000 x219001 x219002 x219003 x219004 x219005 x220000 x220001 x220002 x220003 x220004 x220005 x263000 x263001 x263002 x263003 x263004 x263005 x276000 x276001 x276002 x276003 x276004 x276005) else (some false)))
def laws_FnExactChangedBlocks.j2 : Nat → List Int → Bool → List Int → Bool → Int → Int → Int → List Int → List Int → List Int → Int → Int → Int → List Int → List Int → List Int → Int → Int → Int → List Int → List Int → List Int → Int → Int → Int → List Int → List Int → List Int → Option (Bool)
 | 0, _, _, _, _, _, _, _, _, _, _, _, _, _, _, _, _, _, _, _, _, _, _, _, _, _, _, _, _ => none
 | k + 1, x6, x7, x10, x11, x219000, x219001, x219002, x219003, x219004, x219005, x220000, x220001, x220002, x220003, x220004, x220005, x263000, x263001, x263002, x263003, x263004, x263005, x276000, x276001, x276002, x276003, x276004, x276005 => (laws_markModel.f k x263000 x263001 x263002 x263003 x263004 x263005 1).bind fun bt307 => ((laws_markModel.f k x276000 x276001 x276002 x276003 x276004 x276005 bt307.1).bind fun bt311 => (if bt311.1 < 0 then (laws_FnExactChangedBlocks.j3 k x6 x7 x10 true x219000 x219001 x219002 x219003 x219004 x219005 x220000 x220001 x220002 x220003 x220004 x220005) else ((laws_eqIntS.f k x10 x6).bind fun t315 => (if t315 = true then (laws_FnExactChangedBlocks.j3 k x6 x7 x10 (x11 != x7) x219000 x219001 x219002 x219003 x219004 x219005 x220000 x220001 x220002 x220003 x220004 x220005) else (laws_FnExactChangedBlocks.j3 k x6 x7 x10 true x219000 x219001 x219002 x219003 x219004 x219005 x220000 x220001 x220002 x220003 x220004 x220005)))))
def laws_FnExactChangedBlocks.j3 : Nat → List Int → Bool → List Int → Bool → Int → Int → Int → List Int → List Int → List Int → Int → Int → Int → List Int → List Int → List Int → Option (Bool)
 | 0, _, _, _, _, _, _, _, _, _, _, _, _, _, _, _, _ => none
 | k + 1, x6, x7, x10, x82, x219000, x219001, x219002, x219003, x219004, x219005, x220000, x220001, x220002, x220003, x220004, x220005 => if x82 = true then (some false) else ((laws_markIntS.f k x10 1).bind fun bt316 => ((laws_heldIntS.f k bt316.2 1).bind fun t318 => (if t318 < 0 then (some false) else (if t318 = bt316.1 then ((laws_toModel.f k x219000 x219001 x219002 x219003 x219004 x219005).bind fun bt319 => ((laws_toModel.f k x220000 x220001 x220002 x220003 x220004 x220005).bind fun bt331 => ((impl_ChangedBlocks.f k bt319.1 bt319.2.1 bt319.2.2.1 bt319.2.2.2.1 bt319.2.2.2.2.1 bt319.2.2.2.2.2 bt331.1 bt331.2.1 bt331.2.2.1 bt331.2.2.2.1 bt331.2.2.2.2.1 bt331.2.2.2.2.2).bind fun bt343 => ((laws_eqIntS.f k bt343.1 x6).bind fun t347 => (if t347 = true then (laws_FnExactChangedBlocks.j4 k bt316.2 bt316.1 (bt343.2 != x7)) else (laws_FnExactChangedBlocks.j4 k bt316.2 bt316.1 true)))))) else (some false)))))
def laws_FnExactChangedBlocks.j4 : Nat → List Int → Int → Bool → Option (Bool)
 | 0, _, _, _ => none
 | k + 1, x10, x13, x110 => if x110 = true then (some false) else ((laws_heldIntS.f k x10 1).bind fun t348 => (if t348 < 0 then (some false) else (if t348 = x13 then (some true) else (some false))))
end
def laws_FnExactChangedBlocks.f (k : Nat) (a0_0 : Int) (a0_1 : Int) (a0_2 : Int) (l0_3 : List Int) (l0_4 : List Int) (l0_5 : List Int) (a1_0 : Int) (a1_1 : Int) (a1_2 : Int) (l1_3 : List Int) (l1_4 : List Int) (l1_5 : List Int) : Option (Bool) := (laws_szModel.f a0_0 a0_1 a0_2 l0_3 l0_4 l0_5 1048576).bind fun t220 => (if t220 < 0 then (some true) else ((laws_szModel.f a1_0 a1_1 a1_2 l1_3 l1_4 l1_5 t220).bind fun t221 => (if t221 < 0 then (some true) else ((laws_toModel.f k a0_0 a0_1 a0_2 l0_3 l0_4 l0_5).bind fun bt222 => ((laws_toModel.f k a1_0 a1_1 a1_2 l1_3 l1_4 l1_5).bind fun bt234 => ((spec_ChangedBlocks.f k bt222.1 bt222.2.1 bt222.2.2.1 bt222.2.2.2.1 bt222.2.2.2.2.1 bt222.2.2.2.2.2 bt234.1 bt234.2.1 bt234.2.2.1 bt234.2.2.2.1 bt234.2.2.2.2.1 bt234.2.2.2.2.2).bind fun bt246 => ((laws_toModel.f k a0_0 a0_1 a0_2 l0_3 l0_4 l0_5).bind fun bt250 => ((laws_toModel.f k a1_0 a1_1 a1_2 l1_3 l1_4 l1_5).bind fun bt263 => ((impl_ChangedBlocks.f k bt250.1 bt250.2.1 bt250.2.2.1 bt250.2.2.2.1 bt250.2.2.2.2.1 bt250.2.2.2.2.2 bt263.1 bt263.2.1 bt263.2.2.1 bt263.2.2.2.1 bt263.2.2.2.2.1 bt263.2.2.2.2.2).bind fun bt276 => ((laws_eqIntS.f k bt276.1 bt246.1).bind fun t280 => (if t280 = true then (laws_FnExactChangedBlocks.j0 k bt246.1 bt246.2 bt276.1 bt276.2 (bt276.2 != bt246.2) a0_0 a0_1 a0_2 l0_3 l0_4 l0_5 a1_0 a1_1 a1_2 l1_3 l1_4 l1_5 bt250.1 bt250.2.1 bt250.2.2.1 bt250.2.2.2.1 bt250.2.2.2.2.1 bt250.2.2.2.2.2 bt263.1 bt263.2.1 bt263.2.2.1 bt263.2.2.2.1 bt263.2.2.2.2.1 bt263.2.2.2.2.2) else (laws_FnExactChangedBlocks.j0 k bt246.1 bt246.2 bt276.1 bt276.2 true a0_0 a0_1 a0_2 l0_3 l0_4 l0_5 a1_0 a1_1 a1_2 l1_3 l1_4 l1_5 bt250.1 bt250.2.1 bt250.2.2.1 bt250.2.2.2.1 bt250.2.2.2.2.1 bt250.2.2.2.2.2 bt263.1 bt263.2.1 bt263.2.2.1 bt263.2.2.2.1 bt263.2.2.2.2.1 bt263.2.2.2.2.2))))))))))))
def laws_FnExactChangedBlocks.T8 : Bool × List (List Nat × List Nat) := (true, [([], []), ([0], [0]), ([], []), ([2, 1], [2]), ([1, 3, 3], [1, 3]), ([4], [4]), ([5], [5]), ([5], [5]), ([6, 4, 0, 1, 2, 3, 4, 5, 6], [6]), ([7, 8, 0, 1, 2, 3, 4, 5, 6, 7, 8], [7])])
def laws_FnExactChangedBlocks.B8 : List Nat := [0, 1, 0, 7, 15, 31, 63, 63, 127, 511]
theorem laws_FnExactChangedBlocks.tab8 : rtab .any (opsOf Try.f6 8) = laws_FnExactChangedBlocks.T8 := by kernel_rfl
theorem laws_FnExactChangedBlocks.bits8 : waitsOk laws_FnExactChangedBlocks.T8.2 laws_FnExactChangedBlocks.B8 = true := by kernel_rfl
def laws_FnExactChangedBlocks.T31 : Bool × List (List Nat × List Nat) := (true, [([], []), ([0], [0]), ([], []), ([2, 1], [2]), ([1, 3, 3], [1, 3]), ([4], [4]), ([5], [5]), ([5], [5]), ([6, 4, 0, 1, 2, 3, 4, 5, 6], [6]), ([7, 8, 0, 1, 2, 3, 4, 5, 6, 7, 8], [7])])
def laws_FnExactChangedBlocks.B31 : List Nat := [0, 1, 0, 7, 15, 31, 63, 63, 127, 511]
theorem laws_FnExactChangedBlocks.tab31 : rtab .any (opsOf Try.f6 31) = laws_FnExactChangedBlocks.T31 := by kernel_rfl
theorem laws_FnExactChangedBlocks.bits31 : waitsOk laws_FnExactChangedBlocks.T31.2 laws_FnExactChangedBlocks.B31 = true := by kernel_rfl
set_option maxHeartbeats 8000000 in
set_option maxRecDepth 100000 in
theorem laws_FnExactChangedBlocks.calls (k : Nat) (a0_0 : Int) (a0_1 : Int) (a0_2 : Int) (A0_3 : Option Addr) (c0_3 : Nat) (l0_3 : List Int) (A0_4 : Option Addr) (c0_4 : Nat) (l0_4 : List Int) (A0_5 : Option Addr) (c0_5 : Nat) (l0_5 : List Int) (a1_0 : Int) (a1_1 : Int) (a1_2 : Int) (A1_3 : Option Addr) (c1_3 : Nat) (l1_3 : List Int) (A1_4 : Option Addr) (c1_4 : Nat) (l1_4 : List Int) (A1_5 : Option Addr) (c1_5 : Nat) (l1_5 : List Int) (r : Bool) (w : World) (hr0_3 : Kd.C (Kd.int .i64) w A0_3 l0_3.length l0_3) (hc0_3 : l0_3.length ≤ c0_3) (hr0_4 : Kd.C (Kd.int .i64) w A0_4 l0_4.length l0_4) (hc0_4 : l0_4.length ≤ c0_4) (hr0_5 : Kd.C (Kd.int .i64) w A0_5 l0_5.length l0_5) (hc0_5 : l0_5.length ≤ c0_5) (hr1_3 : Kd.C (Kd.int .i64) w A1_3 l1_3.length l1_3) (hc1_3 : l1_3.length ≤ c1_3) (hr1_4 : Kd.C (Kd.int .i64) w A1_4 l1_4.length l1_4) (hc1_4 : l1_4.length ≤ c1_4) (hr1_5 : Kd.C (Kd.int .i64) w A1_5 l1_5.length l1_5) (hc1_5 : l1_5.length ≤ c1_5) (h : laws_FnExactChangedBlocks.f k a0_0 a0_1 a0_2 l0_3 l0_4 l0_5 a1_0 a1_1 a1_2 l1_3 l1_4 l1_5 = some r) :
  Calls Try.prog 6 #[.agg #[.int .i64 a0_0, .int .i64 a0_1, .int .i64 a0_2, .slice A0_3 l0_3.length c0_3, .slice A0_4 l0_4.length c0_4, .slice A0_5 l0_5.length c0_5], .agg #[.int .i64 a1_0, .int .i64 a1_1, .int .i64 a1_2, .slice A1_3 l1_3.length c1_3, .slice A1_4 l1_4.length c1_4, .slice A1_5 l1_5.length c1_5]] w fun e w' => e = .returned (.bool r) ∧ Below w.heap.size w w' := by
 have hu38 := Try.underlying38
 have hu44 := Try.underlying44
 have HR0_3 := Aside0.mk hr0_3
 have HC0_3 := Aside0.mk hc0_3
 clear hr0_3 hc0_3
 have HR0_4 := Aside0.mk hr0_4
 have HC0_4 := Aside0.mk hc0_4
 clear hr0_4 hc0_4
 have HR0_5 := Aside0.mk hr0_5
 have HC0_5 := Aside0.mk hc0_5
 clear hr0_5 hc0_5
 have HR1_3 := Aside0.mk hr1_3
 have HC1_3 := Aside0.mk hc1_3
 clear hr1_3 hc1_3
 have HR1_4 := Aside0.mk hr1_4
 have HC1_4 := Aside0.mk hc1_4
 clear hr1_4 hc1_4
 have HR1_5 := Aside0.mk hr1_5
 have HC1_5 := Aside0.mk hc1_5
 clear hr1_5 hc1_5
 have HB := Aside0.mk (Below.refl w.heap.size w)
 have H : ((laws_szModel.f a0_0 a0_1 a0_2 l0_3 l0_4 l0_5 1048576).bind fun t220 => (if t220 < 0 then (some true) else ((laws_szModel.f a1_0 a1_1 a1_2 l1_3 l1_4 l1_5 t220).bind fun t221 => (if t221 < 0 then (some true) else ((laws_toModel.f k a0_0 a0_1 a0_2 l0_3 l0_4 l0_5).bind fun bt222 => ((laws_toModel.f k a1_0 a1_1 a1_2 l1_3 l1_4 l1_5).bind fun bt234 => ((spec_ChangedBlocks.f k bt222.1 bt222.2.1 bt222.2.2.1 bt222.2.2.2.1 bt222.2.2.2.2.1 bt222.2.2.2.2.2 bt234.1 bt234.2.1 bt234.2.2.1 bt234.2.2.2.1 bt234.2.2.2.2.1 bt234.2.2.2.2.2).bind fun bt246 => ((laws_toModel.f k a0_0 a0_1 a0_2 l0_3 l0_4 l0_5).bind fun bt250 => ((laws_toModel.f k a1_0 a1_1 a1_2 l1_3 l1_4 l1_5).bind fun bt263 => ((impl_ChangedBlocks.f k bt250.1 bt250.2.1 bt250.2.2.1 bt250.2.2.2.1 bt250.2.2.2.2.1 bt250.2.2.2.2.2 bt263.1 bt263.2.1 bt263.2.2.1 bt263.2.2.2.1 bt263.2.2.2.2.1 bt263.2.2.2.2.2).bind fun bt276 => ((laws_eqIntS.f k bt276.1 bt246.1).bind fun t280 => (if t280 = true then (laws_FnExactChangedBlocks.j0 k bt246.1 bt246.2 bt276.1 bt276.2 (bt276.2 != bt246.2) a0_0 a0_1 a0_2 l0_3 l0_4 l0_5 a1_0 a1_1 a1_2 l1_3 l1_4 l1_5 bt250.1 bt250.2.1 bt250.2.2.1 bt250.2.2.2.1 bt250.2.2.2.2.1 bt250.2.2.2.2.2 bt263.1 bt263.2.1 bt263.2.2.1 bt263.2.2.2.1 bt263.2.2.2.2.1 bt263.2.2.2.2.2) else (laws_FnExactChangedBlocks.j0 k bt246.1 bt246.2 bt276.1 bt276.2 true a0_0 a0_1 a0_2 l0_3 l0_4 l0_5 a1_0 a1_1 a1_2 l1_3 l1_4 l1_5 bt250.1 bt250.2.1 bt250.2.2.1 bt250.2.2.2.1 bt250.2.2.2.2.1 bt250.2.2.2.2.2 bt263.1 bt263.2.1 bt263.2.2.1 bt263.2.2.2.1 bt263.2.2.2.2.1 bt263.2.2.2.2.2))))))))))))) = some r := h
 clear h
 replace H := Option.bind_eq_some_iff.mp H
 obtain ⟨t220, A30, H⟩ := H
 have A3 := Aside0.mk A30
 clear A30
 by_cases c4 : t220 < 0
 ·rw [if_pos c4] at H
  have c4b0 : decide (t220 < 0) = true := decide_eq_true c4
  clear c4
  obtain rfl := Option.some.inj H
  go_enter Try.func6, Try.ntmps6
  go_wp2_with (first | ((with_reducible refine gate_dst (N := 2) rfl ?_); refine box_event ?hg (N := 2) ?hd (cs := #[.int .i64 a0_0, .int .i64 a0_1, .int .i64 a0_2, .slice A0_3 l0_3.length c0_3, .slice A0_4 l0_4.length c0_4, .slice A0_5 l0_5.length c0_5]) (t := 38) ?hr ?_; (case hd => rfl); (case hg => rfl); (case hr => first | (go_simp; done) | (go_simp; rfl)); intro gb218 hg w5 hbox hb; have BK218 := Aside0.mk (hbox); have GW218 := Aside0.mk ((by rw [hg]; exact (below_size (be0x6 HB.out)) : w.heap.size ≤ gb218)); have GE218 := Aside0.mk ((by rw [hg]; exact (below_size (be0x6 HB.out)) : w.heap.size ≤ gb218)); replace HB := Aside0.mk (below_step (be0x6 HB.out) hb); clear hb hbox hg) | ((with_reducible refine gate_dst (N := 3) rfl ?_); refine box_event ?hg (N := 3) ?hd (cs := #[.int .i64 a1_0, .int .i64 a1_1, .int .i64 a1_2, .slice A1_3 l1_3.length c1_3, .slice A1_4 l1_4.length c1_4, .slice A1_5 l1_5.length c1_5]) (t := 38) ?hr ?_; (case hd => rfl); (case hg => rfl); (case hr => first | (go_simp; done) | (go_simp; rfl)); intro gb219 hg w6 hbox hb; have BK219 := Aside0.mk (hbox); have GW219 := Aside0.mk ((by rw [hg]; exact (below_size (be1x6 HB.out GE218.out)) : w.heap.size ≤ gb219)); have GE219 := Aside0.mk ((by rw [hg]; exact (below_size (be1x6 HB.out GE218.out)) : w.heap.size ≤ gb219)); replace HB := Aside0.mk (below_step (be1x6 HB.out GE218.out) hb); have NB218_219 := Aside0.mk ((by rw [hg]; exact Nat.ne_of_lt (blk_lt (g := gb218) (o := .cells #[.int .i64 a0_0, .int .i64 a0_1, .int .i64 a0_2, .slice A0_3 l0_3.length c0_3, .slice A0_4 l0_4.length c0_4, .slice A0_5 l0_5.length c0_5] 38 (0, 0)) (rBx6 BK218.out)) : gb218 ≠ gb219)); have NB219_218 := Aside0.mk ((by rw [hg]; exact Nat.ne_of_gt (blk_lt (g := gb218) (o := .cells #[.int .i64 a0_0, .int .i64 a0_1, .int .i64 a0_2, .slice A0_3 l0_3.length c0_3, .slice A0_4 l0_4.length c0_4, .slice A0_5 l0_5.length c0_5] 38 (0, 0)) (rBx6 BK218.out)) : gb219 ≠ gb218)); replace BK218 := Aside0.mk (blk_below (g := gb218) (o := .cells #[.int .i64 a0_0, .int .i64 a0_1, .int .i64 a0_2, .slice A0_3 l0_3.length c0_3, .slice A0_4 l0_4.length c0_4, .slice A0_5 l0_5.length c0_5] 38 (0, 0)) (rBx6 BK218.out) hb); clear hb hbox hg; have hnb7 := NB218_219.out; have hnc7 := NB219_218.out; obtain ⟨hcz8_0, hcz8_1, hcz8_2, hcz8_3, hcz8_4, hcz8_5, hfz8_0, hfz8_1, hfz8_2, hfz8_3, hfz8_4, hfz8_5⟩ := cf6x6 BK218.out) | ((with_reducible refine gate_callee (f := 22) rfl ?_); refine goesL_ (some 19) rfl rfl Try.func22 (by kernel_rfl) rfl #[.agg #[.int .i64 a0_0, .int .i64 a0_1, .int .i64 a0_2, .slice A0_3 l0_3.length c0_3, .slice A0_4 l0_4.length c0_4, .slice A0_5 l0_5.length c0_5], .int .i64 1048576] rfl mpx6 ?_; (with_reducible refine (laws_szModel.calls a0_0 a0_1 a0_2 _ _ l0_3 _ _ l0_4 _ _ l0_5 1048576 t220 _ ?side1 ?side2 ?side3 ?side4 ?side5 ?side6 A3.out).mono ?_); (case side1 => exact rCx6 (Kd.C_below HR0_3.out HB.out)); (case side2 => exact HC0_3.out); (case side3 => exact rCx6 (Kd.C_below HR0_4.out HB.out)); (case side4 => exact HC0_4.out); (case side5 => exact rCx6 (Kd.C_below HR0_5.out HB.out)); (case side6 => exact HC0_5.out); rintro e w9 ⟨rfl, hb⟩; refine ⟨_, rfl, ?_⟩; replace BK218 := Aside0.mk (blk_below (g := gb218) (o := .cells #[.int .i64 a0_0, .int .i64 a0_1, .int .i64 a0_2, .slice A0_3 l0_3.length c0_3, .slice A0_4 l0_4.length c0_4, .slice A0_5 l0_5.length c0_5] 38 (0, 0)) (rBx6 BK218.out) hb); replace BK219 := Aside0.mk (blk_below (g := gb219) (o := .cells #[.int .i64 a1_0, .int .i64 a1_1, .int .i64 a1_2, .slice A1_3 l1_3.length c1_3, .slice A1_4 l1_4.length c1_4, .slice A1_5 l1_5.length c1_5] 38 (0, 0)) (rBx6 BK219.out) hb); replace HB := Aside0.mk (below_step (be2x6 HB.out GE218.out GE219.out) hb); (try clear hb); (try clear hb2); (try clear hk); (try clear hi)))
  go_ret
  exact ⟨by first | rfl | (simp [errW_none, errW_some] <;> rfl) | (simp [*, errW_none, errW_some] <;> rfl), be2x6 HB.out GE218.out GE219.out⟩
 ·rw [if_neg c4] at H
  have c4b0 : decide (t220 < 0) = false := decide_eq_false c4
  clear c4
  replace H := Option.bind_eq_some_iff.mp H
  obtain ⟨t221, A100, H⟩ := H
  have A10 := Aside0.mk A100
  clear A100
  by_cases c11 : t221 < 0
  ·rw [if_pos c11] at H
   have c11b0 : decide (t221 < 0) = true := decide_eq_true c11
   clear c11
   obtain rfl := Option.some.inj H
   go_enter Try.func6, Try.ntmps6
   go_wp2_with (first | ((with_reducible refine gate_dst (N := 2) rfl ?_); refine box_event ?hg (N := 2) ?hd (cs := #[.int .i64 a0_0, .int .i64 a0_1, .int .i64 a0_2, .slice A0_3 l0_3.length c0_3, .slice A0_4 l0_4.length c0_4, .slice A0_5 l0_5.length c0_5]) (t := 38) ?hr ?_; (case hd => rfl); (case hg => rfl); (case hr => first | (go_simp; done) | (go_simp; rfl)); intro gb218 hg w12 hbox hb; have BK218 := Aside0.mk (hbox); have GW218 := Aside0.mk ((by rw [hg]; exact (below_size (be0x6 HB.out)) : w.heap.size ≤ gb218)); have GE218 := Aside0.mk ((by rw [hg]; exact (below_size (be0x6 HB.out)) : w.heap.size ≤ gb218)); replace HB := Aside0.mk (below_step (be0x6 HB.out) hb); clear hb hbox hg) | ((with_reducible refine gate_dst (N := 3) rfl ?_); refine box_event ?hg (N := 3) ?hd (cs := #[.int .i64 a1_0, .int .i64 a1_1, .int .i64 a1_2, .slice A1_3 l1_3.length c1_3, .slice A1_4 l1_4.length c1_4, .slice A1_5 l1_5.length c1_5]) (t := 38) ?hr ?_; (case hd => rfl); (case hg => rfl); (case hr => first | (go_simp; done) | (go_simp; rfl)); intro gb219 hg w13 hbox hb; have BK219 := Aside0.mk (hbox); have GW219 := Aside0.mk ((by rw [hg]; exact (below_size (be1x6 HB.out GE218.out)) : w.heap.size ≤ gb219)); have GE219 := Aside0.mk ((by rw [hg]; exact (below_size (be1x6 HB.out GE218.out)) : w.heap.size ≤ gb219)); replace HB := Aside0.mk (below_step (be1x6 HB.out GE218.out) hb); have NB218_219 := Aside0.mk ((by rw [hg]; exact Nat.ne_of_lt (blk_lt (g := gb218) (o := .cells #[.int .i64 a0_0, .int .i64 a0_1, .int .i64 a0_2, .slice A0_3 l0_3.length c0_3, .slice A0_4 l0_4.length c0_4, .slice A0_5 l0_5.length c0_5] 38 (0, 0)) (rBx6 BK218.out)) : gb218 ≠ gb219)); have NB219_218 := Aside0.mk ((by rw [hg]; exact Nat.ne_of_gt (blk_lt (g := gb218) (o := .cells #[.int .i64 a0_0, .int .i64 a0_1, .int .i64 a0_2, .slice A0_3 l0_3.length c0_3, .slice A0_4 l0_4.length c0_4, .slice A0_5 l0_5.length c0_5] 38 (0, 0)) (rBx6 BK218.out)) : gb219 ≠ gb218)); replace BK218 := Aside0.mk (blk_below (g := gb218) (o := .cells #[.int .i64 a0_0, .int .i64 a0_1, .int .i64 a0_2, .slice A0_3 l0_3.length c0_3, .slice A0_4 l0_4.length c0_4, .slice A0_5 l0_5.length c0_5] 38 (0, 0)) (rBx6 BK218.out) hb); clear hb hbox hg; have hnb14 := NB218_219.out; have hnc14 := NB219_218.out; obtain ⟨hcz15_0, hcz15_1, hcz15_2, hcz15_3, hcz15_4, hcz15_5, hfz15_0, hfz15_1, hfz15_2, hfz15_3, hfz15_4, hfz15_5⟩ := cf6x6 BK218.out) | ((with_reducible refine gate_callee (f := 22) rfl ?_); refine goesL_ (some 19) rfl rfl Try.func22 (by kernel_rfl) rfl #[.agg #[.int .i64 a0_0, .int .i64 a0_1, .int .i64 a0_2, .slice A0_3 l0_3.length c0_3, .slice A0_4 l0_4.length c0_4, .slice A0_5 l0_5.length c0_5], .int .i64 1048576] rfl mpx6 ?_; (with_reducible refine (laws_szModel.calls a0_0 a0_1 a0_2 _ _ l0_3 _ _ l0_4 _ _ l0_5 1048576 t220 _ ?side1 ?side2 ?side3 ?side4 ?side5 ?side6 A3.out).mono ?_); (case side1 => exact rCx6 (Kd.C_below HR0_3.out HB.out)); (case side2 => exact HC0_3.out); (case side3 => exact rCx6 (Kd.C_below HR0_4.out HB.out)); (case side4 => exact HC0_4.out); (case side5 => exact rCx6 (Kd.C_below HR0_5.out HB.out)); (case side6 => exact HC0_5.out); rintro e w16 ⟨rfl, hb⟩; refine ⟨_, rfl, ?_⟩; replace BK218 := Aside0.mk (blk_below (g := gb218) (o := .cells #[.int .i64 a0_0, .int .i64 a0_1, .int .i64 a0_2, .slice A0_3 l0_3.length c0_3, .slice A0_4 l0_4.length c0_4, .slice A0_5 l0_5.length c0_5] 38 (0, 0)) (rBx6 BK218.out) hb); replace BK219 := Aside0.mk (blk_below (g := gb219) (o := .cells #[.int .i64 a1_0, .int .i64 a1_1, .int .i64 a1_2, .slice A1_3 l1_3.length c1_3, .slice A1_4 l1_4.length c1_4, .slice A1_5 l1_5.length c1_5] 38 (0, 0)) (rBx6 BK219.out) hb); replace HB := Aside0.mk (below_step (be2x6 HB.out GE218.out GE219.out) hb); (try clear hb); (try clear hb2); (try clear hk); (try clear hi); obtain ⟨hcz17_0, hcz17_1, hcz17_2, hcz17_3, hcz17_4, hcz17_5, hfz17_0, hfz17_1, hfz17_2, hfz17_3, hfz17_4, hfz17_5⟩ := cf6x6 BK219.out) | ((with_reducible refine gate_callee (f := 22) rfl ?_); refine goesL_ (some 24) rfl rfl Try.func22 (by kernel_rfl) rfl #[.agg #[.int .i64 a1_0, .int .i64 a1_1, .int .i64 a1_2, .slice A1_3 l1_3.length c1_3, .slice A1_4 l1_4.length c1_4, .slice A1_5 l1_5.length c1_5], .int .i64 t220] rfl mpx6 ?_; (with_reducible refine (laws_szModel.calls a1_0 a1_1 a1_2 _ _ l1_3 _ _ l1_4 _ _ l1_5 t220 t221 _ ?side1 ?side2 ?side3 ?side4 ?side5 ?side6 A10.out).mono ?_); (case side1 => exact rCx6 (Kd.C_below HR1_3.out HB.out)); (case side2 => exact HC1_3.out); (case side3 => exact rCx6 (Kd.C_below HR1_4.out HB.out)); (case side4 => exact HC1_4.out); (case side5 => exact rCx6 (Kd.C_below HR1_5.out HB.out)); (case side6 => exact HC1_5.out); rintro e w18 ⟨rfl, hb⟩; refine ⟨_, rfl, ?_⟩; replace BK218 := Aside0.mk (blk_below (g := gb218) (o := .cells #[.int .i64 a0_0, .int .i64 a0_1, .int .i64 a0_2, .slice A0_3 l0_3.length c0_3, .slice A0_4 l0_4.length c0_4, .slice A0_5 l0_5.length c0_5] 38 (0, 0)) (rBx6 BK218.out) hb); replace BK219 := Aside0.mk (blk_below (g := gb219) (o := .cells #[.int .i64 a1_0, .int .i64 a1_1, .int .i64 a1_2, .slice A1_3 l1_3.length c1_3, .slice A1_4 l1_4.length c1_4, .slice A1_5 l1_5.length c1_5] 38 (0, 0)) (rBx6 BK219.out) hb); replace HB := Aside0.mk (below_step (be2x6 HB.out GE218.out GE219.out) hb); (try clear hb); (try clear hb2); (try clear hk); (try clear hi)))
   go_ret
   exact ⟨by first | rfl | (simp [errW_none, errW_some] <;> rfl) | (simp [*, errW_none, errW_some] <;> rfl), be2x6 HB.out GE218.out GE219.out⟩
  ·rw [if_neg c11] at H
   have c11b0 : decide (t221 < 0) = false := decide_eq_false c11
   clear c11
   replace H := Option.bind_eq_some_iff.mp H
   obtain ⟨⟨t222, t223, t224, t225, t228, t231⟩, A190, H⟩ := H
   (try dsimp only at H)
   have A19 := Aside0.mk A190
   clear A190
   replace H := Option.bind_eq_some_iff.mp H
   obtain ⟨⟨t234, t235, t236, t237, t240, t243⟩, A200, H⟩ := H
   (try dsimp only at H)
   have A20 := Aside0.mk A200
   clear A200
   replace H := Option.bind_eq_some_iff.mp H
   obtain ⟨⟨t246, t249⟩, A210, H⟩ := H
   (try dsimp only at H)
   have A21 := Aside0.mk A210
   clear A210
   replace H := Option.bind_eq_some_iff.mp H
   obtain ⟨⟨t250, t251, t252, t253, t256, t259⟩, A220, H⟩ := H
   (try dsimp only at H)
   have A22 := Aside0.mk A220
   clear A220
   replace H := Option.bind_eq_some_iff.mp H
   obtain ⟨⟨t263, t264, t265, t266, t269, t272⟩, A230, H⟩ := H
   (try dsimp only at H)
   have A23 := Aside0.mk A230
   clear A230
   replace H := Option.bind_eq_some_iff.mp H
   obtain ⟨⟨t276, t279⟩, A240, H⟩ := H
   (try dsimp only at H)
   have A24 := Aside0.mk A240
   clear A240
   have HC25 := Aside0.mk H
   clear H
   go_enter Try.func6, Try.ntmps6
   try go_wp2_with (first | ((with_reducible refine gate_dst (N := 2) rfl ?_); refine box_event ?hg (N := 2) ?hd (cs := #[.int .i64 a0_0, .int .i64 a0_1, .int .i64 a0_2, .slice A0_3 l0_3.length c0_3, .slice A0_4 l0_4.length c0_4, .slice A0_5 l0_5.length c0_5]) (t := 38) ?hr ?_; (case hd => rfl); (case hg => rfl); (case hr => first | (go_simp; done) | (go_simp; rfl)); intro gb218 hg w26 hbox hb; have BK218 := Aside0.mk (hbox); have GW218 := Aside0.mk ((by rw [hg]; exact (below_size (be0x6 HB.out)) : w.heap.size ≤ gb218)); have GE218 := Aside0.mk ((by rw [hg]; exact (below_size (be0x6 HB.out)) : w.heap.size ≤ gb218)); replace HB := Aside0.mk (below_step (be0x6 HB.out) hb); clear hb hbox hg) | ((with_reducible refine gate_dst (N := 3) rfl ?_); refine box_event ?hg (N := 3) ?hd (cs := #[.int .i64 a1_0, .int .i64 a1_1, .int .i64 a1_2, .slice A1_3 l1_3.length c1_3, .slice A1_4 l1_4.length c1_4, .slice A1_5 l1_5.length c1_5]) (t := 38) ?hr ?_; (case hd => rfl); (case hg => rfl); (case hr => first | (go_simp; done) | (go_simp; rfl)); intro gb219 hg w27 hbox hb; have BK219 := Aside0.mk (hbox); have GW219 := Aside0.mk ((by rw [hg]; exact (below_size (be1x6 HB.out GE218.out)) : w.heap.size ≤ gb219)); have GE219 := Aside0.mk ((by rw [hg]; exact (below_size (be1x6 HB.out GE218.out)) : w.heap.size ≤ gb219)); replace HB := Aside0.mk (below_step (be1x6 HB.out GE218.out) hb); have NB218_219 := Aside0.mk ((by rw [hg]; exact Nat.ne_of_lt (blk_lt (g := gb218) (o := .cells #[.int .i64 a0_0, .int .i64 a0_1, .int .i64 a0_2, .slice A0_3 l0_3.length c0_3, .slice A0_4 l0_4.length c0_4, .slice A0_5 l0_5.length c0_5] 38 (0, 0)) (rBx6 BK218.out)) : gb218 ≠ gb219)); have NB219_218 := Aside0.mk ((by rw [hg]; exact Nat.ne_of_gt (blk_lt (g := gb218) (o := .cells #[.int .i64 a0_0, .int .i64 a0_1, .int .i64 a0_2, .slice A0_3 l0_3.length c0_3, .slice A0_4 l0_4.length c0_4, .slice A0_5 l0_5.length c0_5] 38 (0, 0)) (rBx6 BK218.out)) : gb219 ≠ gb218)); replace BK218 := Aside0.mk (blk_below (g := gb218) (o := .cells #[.int .i64 a0_0, .int .i64 a0_1, .int .i64 a0_2, .slice A0_3 l0_3.length c0_3, .slice A0_4 l0_4.length c0_4, .slice A0_5 l0_5.length c0_5] 38 (0, 0)) (rBx6 BK218.out) hb); clear hb hbox hg; have hnb28 := NB218_219.out; have hnc28 := NB219_218.out; obtain ⟨hcz29_0, hcz29_1, hcz29_2, hcz29_3, hcz29_4, hcz29_5, hfz29_0, hfz29_1, hfz29_2, hfz29_3, hfz29_4, hfz29_5⟩ := cf6x6 BK218.out) | ((with_reducible refine gate_callee (f := 22) rfl ?_); refine goesL_ (some 19) rfl rfl Try.func22 (by kernel_rfl) rfl #[.agg #[.int .i64 a0_0, .int .i64 a0_1, .int .i64 a0_2, .slice A0_3 l0_3.length c0_3, .slice A0_4 l0_4.length c0_4, .slice A0_5 l0_5.length c0_5], .int .i64 1048576] rfl mpx6 ?_; (with_reducible refine (laws_szModel.calls a0_0 a0_1 a0_2 _ _ l0_3 _ _ l0_4 _ _ l0_5 1048576 t220 _ ?side1 ?side2 ?side3 ?side4 ?side5 ?side6 A3.out).mono ?_); (case side1 => exact rCx6 (Kd.C_below HR0_3.out HB.out)); (case side2 => exact HC0_3.out); (case side3 => exact rCx6 (Kd.C_below HR0_4.out HB.out)); (case side4 => exact HC0_4.out); (case side5 => exact rCx6 (Kd.C_below HR0_5.out HB.out)); (case side6 => exact HC0_5.out); rintro e w30 ⟨rfl, hb⟩; refine ⟨_, rfl, ?_⟩; replace BK218 := Aside0.mk (blk_below (g := gb218) (o := .cells #[.int .i64 a0_0, .int .i64 a0_1, .int .i64 a0_2, .slice A0_3 l0_3.length c0_3, .slice A0_4 l0_4.length c0_4, .slice A0_5 l0_5.length c0_5] 38 (0, 0)) (rBx6 BK218.out) hb); replace BK219 := Aside0.mk (blk_below (g := gb219) (o := .cells #[.int .i64 a1_0, .int .i64 a1_1, .int .i64 a1_2, .slice A1_3 l1_3.length c1_3, .slice A1_4 l1_4.length c1_4, .slice A1_5 l1_5.length c1_5] 38 (0, 0)) (rBx6 BK219.out) hb); replace HB := Aside0.mk (below_step (be2x6 HB.out GE218.out GE219.out) hb); (try clear hb); (try clear hb2); (try clear hk); (try clear hi); obtain ⟨hcz31_0, hcz31_1, hcz31_2, hcz31_3, hcz31_4, hcz31_5, hfz31_0, hfz31_1, hfz31_2, hfz31_3, hfz31_4, hfz31_5⟩ := cf6x6 BK219.out) | ((with_reducible refine gate_callee (f := 22) rfl ?_); refine goesL_ (some 24) rfl rfl Try.func22 (by kernel_rfl) rfl #[.agg #[.int .i64 a1_0, .int .i64 a1_1, .int .i64 a1_2, .slice A1_3 l1_3.length c1_3, .slice A1_4 l1_4.length c1_4, .slice A1_5 l1_5.length c1_5], .int .i64 t220] rfl mpx6 ?_; (with_reducible refine (laws_szModel.calls a1_0 a1_1 a1_2 _ _ l1_3 _ _ l1_4 _ _ l1_5 t220 t221 _ ?side1 ?side2 ?side3 ?side4 ?side5 ?side6 A10.out).mono ?_); (case side1 => exact rCx6 (Kd.C_below HR1_3.out HB.out)); (case side2 => exact HC1_3.out); (case side3 => exact rCx6 (Kd.C_below HR1_4.out HB.out)); (case side4 => exact HC1_4.out); (case side5 => exact rCx6 (Kd.C_below HR1_5.out HB.out)); (case side6 => exact HC1_5.out); rintro e w32 ⟨rfl, hb⟩; refine ⟨_, rfl, ?_⟩; replace BK218 := Aside0.mk (blk_below (g := gb218) (o := .cells #[.int .i64 a0_0, .int .i64 a0_1, .int .i64 a0_2, .slice A0_3 l0_3.length c0_3, .slice A0_4 l0_4.length c0_4, .slice A0_5 l0_5.length c0_5] 38 (0, 0)) (rBx6 BK218.out) hb); replace BK219 := Aside0.mk (blk_below (g := gb219) (o := .cells #[.int .i64 a1_0, .int .i64 a1_1, .int .i64 a1_2, .slice A1_3 l1_3.length c1_3, .slice A1_4 l1_4.length c1_4, .slice A1_5 l1_5.length c1_5] 38 (0, 0)) (rBx6 BK219.out) hb); replace HB := Aside0.mk (below_step (be2x6 HB.out GE218.out GE219.out) hb); (try clear hb); (try clear hb2); (try clear hk); (try clear hi)))
   have n0_ := Aside0.mk (blk_drew BK218.out)
   have n1_ := Aside0.mk (blk_drew BK219.out)
   have n2_ := Aside0.mk (below_drew1 HB.out)
   clear BK218
   clear BK219
   clear HB
   have BK218 := n0_
   have BK219 := n1_
   have HB := n2_
   clear n0_ n1_ n2_
   refine start_ (n := 10) (S := fun w' => w'.cell? ⟨gb218, 0, none⟩ = some (.int .i64 a0_0) ∧ w'.cell? ⟨gb218, 1, none⟩ = some (.int .i64 a0_1) ∧ w'.cell? ⟨gb218, 2, none⟩ = some (.int .i64 a0_2) ∧ w'.cell? ⟨gb218, 3, none⟩ = some (.slice A0_3 l0_3.length c0_3) ∧ w'.cell? ⟨gb218, 4, none⟩ = some (.slice A0_4 l0_4.length c0_4) ∧ w'.cell? ⟨gb218, 5, none⟩ = some (.slice A0_5 l0_5.length c0_5) ∧ w'.cell? ⟨gb219, 0, none⟩ = some (.int .i64 a1_0) ∧ w'.cell? ⟨gb219, 1, none⟩ = some (.int .i64 a1_1) ∧ w'.cell? ⟨gb219, 2, none⟩ = some (.int .i64 a1_2) ∧ w'.cell? ⟨gb219, 3, none⟩ = some (.slice A1_3 l1_3.length c1_3) ∧ w'.cell? ⟨gb219, 4, none⟩ = some (.slice A1_4 l1_4.length c1_4) ∧ w'.cell? ⟨gb219, 5, none⟩ = some (.slice A1_5 l1_5.length c1_5)) (ds := []) #[false, false, false, false, false, false, false, false, false, false] (by kernel_rfl) rfl rfl (ca6x6 BK218.out (cc6x6 BK219.out)) (fun hHeld => ?_); refine with_tabW laws_FnExactChangedBlocks.tab8 laws_FnExactChangedBlocks.bits8 (fun HT_ HW_ => ?_)
   generalize w32.drew = w33 at BK218 BK219 HB hHeld ⊢
   refine take_ (i := 0) (N := some 28) (v := ?_) (a' := ?_) #[true, false, false, false, false, false, false, false, false, false] rfl rfl (take_ofW HT_.out HW_.out (by kernel_rfl)) (fun _ _ _ h => h) (Or.inl ⟨by rfl, ?_⟩) hHeld ?_ ?_
   rotate_left
   ·rintro w' ⟨s0, s1, s2, s3, s4, s5, s6, s7, s8, s9, s10, s11⟩
    go_simp
    with_reducible rfl
   rotate_left
   ·simp only [Act.put, List.setIfInBounds_toArray, List.set_cons_zero, List.set_cons_succ, i64_w, i32_w]
    rfl
   refine take_ (i := 2) (N := some 30) (v := ?_) (a' := ?_) #[true, false, true, false, false, false, false, false, false, false] rfl rfl (take_ofW HT_.out HW_.out (by kernel_rfl)) (fun _ _ _ h => h) (Or.inl ⟨by rfl, ?_⟩) hHeld ?_ ?_
   rotate_left
   ·rintro w' ⟨s0, s1, s2, s3, s4, s5, s6, s7, s8, s9, s10, s11⟩
    go_simp
    with_reducible rfl
   rotate_left
   ·simp only [Act.put, List.setIfInBounds_toArray, List.set_cons_zero, List.set_cons_succ, i64_w, i32_w]
    rfl
   refine one_ (i := 1) (N := some 29) #[true, true, true, false, false, false, false, false, false, false] rfl rfl (one_of HT_.out (by kernel_rfl)) (by decide) (fun K hK => ?_)
   refine goes_ Try.func24 (by kernel_rfl) rfl #[.agg #[.int .i64 a0_0, .int .i64 a0_1, .int .i64 a0_2, .slice A0_3 l0_3.length c0_3, .slice A0_4 l0_4.length c0_4, .slice A0_5 l0_5.length c0_5]] (by rfl) rfl rfl mpx6 ?_
   with_reducible refine (laws_toModel.calls k a0_0 a0_1 a0_2 _ _ l0_3 _ _ l0_4 _ _ l0_5 t222 t223 t224 t225 t228 t231 _ ?side1 ?side2 ?side3 ?side4 ?side5 ?side6 A19.out).mono ?_
   (case side1 => exact rCx6 (Kd.C_below HR0_3.out HB.out))
   (case side2 => exact HC0_3.out)
   (case side3 => exact rCx6 (Kd.C_below HR0_4.out HB.out))
   (case side4 => exact HC0_4.out)
   (case side5 => exact rCx6 (Kd.C_below HR0_5.out HB.out))
   (case side6 => exact HC0_5.out)
   rintro e w34 ⟨v226, v229, v232, rfl, ho0, ho1, ho2, hb⟩
   refine ⟨_, rfl, ?_⟩
   have n0_ := Aside0.mk (Kd.R_lower ho0 (below_size (be2x6 HB.out GE218.out GE219.out)))
   have n1_ := Aside0.mk (Kd.R_lower ho1 (below_size (be2x6 HB.out GE218.out GE219.out)))
   have n2_ := Aside0.mk (Kd.R_lower ho2 (below_size (be2x6 HB.out GE218.out GE219.out)))
   have n3_ := Aside0.mk (blk_below (g := gb218) (o := .cells #[.int .i64 a0_0, .int .i64 a0_1, .int .i64 a0_2, .slice A0_3 l0_3.length c0_3, .slice A0_4 l0_4.length c0_4, .slice A0_5 l0_5.length c0_5] 38 (0, 0)) (rBx6 BK218.out) hb)
   have n4_ := Aside0.mk (blk_below (g := gb219) (o := .cells #[.int .i64 a1_0, .int .i64 a1_1, .int .i64 a1_2, .slice A1_3 l1_3.length c1_3, .slice A1_4 l1_4.length c1_4, .slice A1_5 l1_5.length c1_5] 38 (0, 0)) (rBx6 BK219.out) hb)
   have n5_ := Aside0.mk (below_step (be2x6 HB.out GE218.out GE219.out) hb)
   clear BK218
   clear BK219
   clear HB
   have HO227 := n0_
   have HO230 := n1_
   have HO233 := n2_
   have BK218 := n3_
   have BK219 := n4_
   have HB := n5_
   clear n0_ n1_ n2_ n3_ n4_ n5_
   (try clear hb)
   (try clear hb2)
   (try clear hk)
   (try clear hi)
   (try clear ho0)
   (try clear ho1)
   (try clear ho2)
   refine hK.out _ _ (ca6x6 BK218.out (cc6x6 BK219.out)) (fun hHeld => ?_)
   clear hK K
   refine norm_ (a' := ?_) ?_ ?_
   rotate_left
   ·show Act.put _ (some 29) _ = _
    simp only [Act.put, List.setIfInBounds_toArray, List.set_cons_zero, List.set_cons_succ, i64_w, i32_w]
    rfl
   refine one_ (i := 3) (N := some 31) #[true, true, true, true, false, false, false, false, false, false] rfl rfl (one_of HT_.out (by kernel_rfl)) (by decide) (fun K hK => ?_)
   refine goes_ Try.func24 (by kernel_rfl) rfl #[.agg #[.int .i64 a1_0, .int .i64 a1_1, .int .i64 a1_2, .slice A1_3 l1_3.length c1_3, .slice A1_4 l1_4.length c1_4, .slice A1_5 l1_5.length c1_5]] (by rfl) rfl rfl mpx6 ?_
   with_reducible refine (laws_toModel.calls k a1_0 a1_1 a1_2 _ _ l1_3 _ _ l1_4 _ _ l1_5 t234 t235 t236 t237 t240 t243 _ ?side1 ?side2 ?side3 ?side4 ?side5 ?side6 A20.out).mono ?_
   (case side1 => exact rCx6 (Kd.C_below HR1_3.out HB.out))
   (case side2 => exact HC1_3.out)
   (case side3 => exact rCx6 (Kd.C_below HR1_4.out HB.out))
   (case side4 => exact HC1_4.out)
   (case side5 => exact rCx6 (Kd.C_below HR1_5.out HB.out))
   (case side6 => exact HC1_5.out)
   rintro e w35 ⟨v238, v241, v244, rfl, ho0, ho1, ho2, hb⟩
   refine ⟨_, rfl, ?_⟩
   have n0_ := Aside0.mk (kp3x6 (rRx6 HO227.out) hb ho0 ho1 ho2)
   have n1_ := Aside0.mk (kp3x6 (rRx6 HO230.out) hb ho0 ho1 ho2)
   have n2_ := Aside0.mk (kp3x6 (rRx6 HO233.out) hb ho0 ho1 ho2)
   have n3_ := Aside0.mk (Kd.R_lower (nwx6 (nwx6 (nwx6 ho0 (rRx6 HO227.out)) (rRx6 HO230.out)) (rRx6 HO233.out)) (below_size (be2x6 HB.out GE218.out GE219.out)))
   have n4_ := Aside0.mk (Kd.R_lower (nwx6 (nwx6 (nwx6 ho1 (rRx6 HO227.out)) (rRx6 HO230.out)) (rRx6 HO233.out)) (below_size (be2x6 HB.out GE218.out GE219.out)))
   have n5_ := Aside0.mk (Kd.R_lower (nwx6 (nwx6 (nwx6 ho2 (rRx6 HO227.out)) (rRx6 HO230.out)) (rRx6 HO233.out)) (below_size (be2x6 HB.out GE218.out GE219.out)))
   have n6_ := Aside0.mk (blk_below (g := gb218) (o := .cells #[.int .i64 a0_0, .int .i64 a0_1, .int .i64 a0_2, .slice A0_3 l0_3.length c0_3, .slice A0_4 l0_4.length c0_4, .slice A0_5 l0_5.length c0_5] 38 (0, 0)) (rBx6 BK218.out) hb)
   have n7_ := Aside0.mk (blk_below (g := gb219) (o := .cells #[.int .i64 a1_0, .int .i64 a1_1, .int .i64 a1_2, .slice A1_3 l1_3.length c1_3, .slice A1_4 l1_4.length c1_4, .slice A1_5 l1_5.length c1_5] 38 (0, 0)) (rBx6 BK219.out) hb)
   have n8_ := Aside0.mk (below_step (be2x6 HB.out GE218.out GE219.out) hb)
   clear HO227
   clear HO230
   clear HO233
   clear BK218
   clear BK219
   clear HB
   have HO227 := n0_
   have HO230 := n1_
   have HO233 := n2_
   have HO239 := n3_
   have HO242 := n4_
   have HO245 := n5_
   have BK218 := n6_
   have BK219 := n7_
   have HB := n8_
   clear n0_ n1_ n2_ n3_ n4_ n5_ n6_ n7_ n8_
   (try clear hb)
   (try clear hb2)
   (try clear hk)
   (try clear hi)
   (try clear ho0)
   (try clear ho1)
   (try clear ho2)
   obtain ⟨Ao36, co36, eo36⟩ := Kd.R_slice HO227.out
   (first | subst eo36 | (injection eo36 with f1_ f2_ f3_; have f4_ := f1_.symm; have f5_ := f3_.symm; clear f1_ f2_ f3_; subst f4_; subst f5_))
   obtain ⟨Ao37, co37, eo37⟩ := Kd.R_slice HO230.out
   (first | subst eo37 | (injection eo37 with f1_ f2_ f3_; have f4_ := f1_.symm; have f5_ := f3_.symm; clear f1_ f2_ f3_; subst f4_; subst f5_))
   obtain ⟨Ao38, co38, eo38⟩ := Kd.R_slice HO233.out
   (first | subst eo38 | (injection eo38 with f1_ f2_ f3_; have f4_ := f1_.symm; have f5_ := f3_.symm; clear f1_ f2_ f3_; subst f4_; subst f5_))
   obtain ⟨Ao39, co39, eo39⟩ := Kd.R_slice HO239.out
   (first | subst eo39 | (injection eo39 with f1_ f2_ f3_; have f4_ := f1_.symm; have f5_ := f3_.symm; clear f1_ f2_ f3_; subst f4_; subst f5_))
   obtain ⟨Ao40, co40, eo40⟩ := Kd.R_slice HO242.out
   (first | subst eo40 | (injection eo40 with f1_ f2_ f3_; have f4_ := f1_.symm; have f5_ := f3_.symm; clear f1_ f2_ f3_; subst f4_; subst f5_))
   obtain ⟨Ao41, co41, eo41⟩ := Kd.R_slice HO245.out
   (first | subst eo41 | (injection eo41 with f1_ f2_ f3_; have f4_ := f1_.symm; have f5_ := f3_.symm; clear f1_ f2_ f3_; subst f4_; subst f5_))
   refine hK.out _ _ (ca6x6 BK218.out (cc6x6 BK219.out)) (fun hHeld => ?_)
   clear hK K
   refine norm_ (a' := ?_) ?_ ?_
   rotate_left
   ·show Act.put _ (some 31) _ = _
    simp only [Act.put, List.setIfInBounds_toArray, List.set_cons_zero, List.set_cons_succ, i64_w, i32_w]
    rfl
   refine one_ (i := 4) (N := some 32) #[true, true, true, true, true, false, false, false, false, false] rfl rfl (one_of HT_.out (by kernel_rfl)) (by decide) (fun K hK => ?_)
   refine goes_ Try.func33 (by kernel_rfl) rfl #[.agg #[.int .i64 t222, .int .i64 t223, .int .i64 t224, .slice Ao36 t225.length co36, .slice Ao37 t228.length co37, .slice Ao38 t231.length co38], .agg #[.int .i64 t234, .int .i64 t235, .int .i64 t236, .slice Ao39 t237.length co39, .slice Ao40 t240.length co40, .slice Ao41 t243.length co41]] (by rfl) rfl rfl mpx6 ?_
   with_reducible refine (spec_ChangedBlocks.calls k t222 t223 t224 _ _ t225 _ _ t228 _ _ t231 t234 t235 t236 _ _ t237 _ _ t240 _ _ t243 t246 t249 _ ?side1 ?side2 ?side3 ?side4 ?side5 ?side6 ?side7 ?side8 ?side9 ?side10 ?side11 ?side12 A21.out).mono ?_
   (case side1 => exact cRx6 HO227.out)
   (case side2 => exact (Kd.R_reads' HO227.out).2.1)
   (case side3 => exact cRx6 HO230.out)
   (case side4 => exact (Kd.R_reads' HO230.out).2.1)
   (case side5 => exact cRx6 HO233.out)
   (case side6 => exact (Kd.R_reads' HO233.out).2.1)
   (case side7 => exact cRx6 HO239.out)
   (case side8 => exact (Kd.R_reads' HO239.out).2.1)
   (case side9 => exact cRx6 HO242.out)
   (case side10 => exact (Kd.R_reads' HO242.out).2.1)
   (case side11 => exact cRx6 HO245.out)
   (case side12 => exact (Kd.R_reads' HO245.out).2.1)
   rintro e w42 ⟨v247, rfl, ho0, hb⟩
   refine ⟨_, rfl, ?_⟩
   have n0_ := Aside0.mk (Kd.R_elder' (rRx6 HO227.out) (Kd.R_base ho0) hb)
   have n1_ := Aside0.mk (Kd.R_elder' (rRx6 HO230.out) (Kd.R_base ho0) hb)
   have n2_ := Aside0.mk (Kd.R_elder' (rRx6 HO233.out) (Kd.R_base ho0) hb)
   have n3_ := Aside0.mk (Kd.R_elder' (rRx6 HO239.out) (Kd.R_base ho0) hb)
   have n4_ := Aside0.mk (Kd.R_elder' (rRx6 HO242.out) (Kd.R_base ho0) hb)
   have n5_ := Aside0.mk (Kd.R_elder' (rRx6 HO245.out) (Kd.R_base ho0) hb)
   have n6_ := Aside0.mk (Kd.R_lower (nwx6 (nwx6 (nwx6 (nwx6 (nwx6 (nwx6 ho0 (rRx6 HO227.out)) (rRx6 HO230.out)) (rRx6 HO233.out)) (rRx6 HO239.out)) (rRx6 HO242.out)) (rRx6 HO245.out)) (below_size (be2x6 HB.out GE218.out GE219.out)))
   have n7_ := Aside0.mk (blk_below (g := gb218) (o := .cells #[.int .i64 a0_0, .int .i64 a0_1, .int .i64 a0_2, .slice A0_3 l0_3.length c0_3, .slice A0_4 l0_4.length c0_4, .slice A0_5 l0_5.length c0_5] 38 (0, 0)) (rBx6 BK218.out) hb)
   have n8_ := Aside0.mk (blk_below (g := gb219) (o := .cells #[.int .i64 a1_0, .int .i64 a1_1, .int .i64 a1_2, .slice A1_3 l1_3.length c1_3, .slice A1_4 l1_4.length c1_4, .slice A1_5 l1_5.length c1_5] 38 (0, 0)) (rBx6 BK219.out) hb)
   have n9_ := Aside0.mk (below_step (be2x6 HB.out GE218.out GE219.out) hb)
   clear HO227
   clear HO230
   clear HO233
   clear HO239
   clear HO242
   clear HO245
   clear BK218
   clear BK219
   clear HB
   have HO227 := n0_
   have HO230 := n1_
   have HO233 := n2_
   have HO239 := n3_
   have HO242 := n4_
   have HO245 := n5_
   have HO248 := n6_
   have BK218 := n7_
   have BK219 := n8_
   have HB := n9_
   clear n0_ n1_ n2_ n3_ n4_ n5_ n6_ n7_ n8_ n9_
   (try clear hb)
   (try clear hb2)
   (try clear hk)
   (try clear hi)
   (try clear ho0)
   refine hK.out _ _ (ca6x6 BK218.out (cc6x6 BK219.out)) (fun hHeld => ?_)
   clear hK K
   refine norm_ (a' := ?_) ?_ ?_
   rotate_left
   ·show Act.put _ (some 32) _ = _
    simp only [Act.put, List.setIfInBounds_toArray, List.set_cons_zero, List.set_cons_succ, i64_w, i32_w]
    rfl
   refine pure_ (i := 5) (N := some 27) (v := ?_) (a' := ?_) #[true, true, true, true, true, true, false, false, false, false] rfl rfl (any_of HT_.out (by kernel_rfl)) (fun _ _ _ h => h) (Or.inl ⟨by rfl, ?_⟩) ?_ ?_
   rotate_left
   ·intro w'
    go_simp
    with_reducible rfl
   rotate_left
   ·simp only [Act.put, List.setIfInBounds_toArray, List.set_cons_zero, List.set_cons_succ, i64_w, i32_w]
    rfl
   refine pure_ (i := 6) (N := some 33) (v := ?_) (a' := ?_) #[true, true, true, true, true, true, true, false, false, false] rfl rfl (any_of HT_.out (by kernel_rfl)) (fun _ _ _ h => h) (Or.inl ⟨by rfl, ?_⟩) ?_ ?_
   rotate_left
   ·intro w'
    go_simp
    with_reducible rfl
   rotate_left
   ·simp only [Act.put, List.setIfInBounds_toArray, List.set_cons_zero, List.set_cons_succ, i64_w, i32_w]
    rfl
   refine pure_ (i := 7) (N := some 34) (v := ?_) (a' := ?_) #[true, true, true, true, true, true, true, true, false, false] rfl rfl (any_of HT_.out (by kernel_rfl)) (fun _ _ _ h => h) (Or.inl ⟨by rfl, ?_⟩) ?_ ?_
   rotate_left
   ·intro w'
    go_simp
    with_reducible rfl
   rotate_left
   ·simp only [Act.put, List.setIfInBounds_toArray, List.set_cons_zero, List.set_cons_succ, i64_w, i32_w]
    rfl
   refine pure_ (i := 8) (N := some 6) (v := ?_) (a' := ?_) #[true, true, true, true, true, true, true, true, true, false] rfl rfl (any_of HT_.out (by kernel_rfl)) (fun _ _ _ h => h) (Or.inl ⟨by rfl, ?_⟩) ?_ ?_
   rotate_left
   ·intro w'
    go_simp
    with_reducible rfl
   rotate_left
   ·simp only [Act.put, List.setIfInBounds_toArray, List.set_cons_zero, List.set_cons_succ, i64_w, i32_w]
    rfl
   refine pure_ (i := 9) (N := some 7) (v := ?_) (a' := ?_) #[true, true, true, true, true, true, true, true, true, true] rfl rfl (any_of HT_.out (by kernel_rfl)) (fun _ _ _ h => h) (Or.inl ⟨by rfl, ?_⟩) ?_ ?_
   rotate_left
   ·intro w'
    go_simp
    with_reducible rfl
   rotate_left
   ·simp only [Act.put, List.setIfInBounds_toArray, List.set_cons_zero, List.set_cons_succ, i64_w, i32_w]
    rfl
   refine done_ (done_of HT_.out (by kernel_rfl)) ?_
   obtain ⟨hcz43_0, hcz43_1, hcz43_2, hcz43_3, hcz43_4, hcz43_5, hfz43_0, hfz43_1, hfz43_2, hfz43_3, hfz43_4, hfz43_5⟩ := cf6x6 BK218.out
   go_upto_region 12 with (first | ((with_reducible refine gate_callee (f := 24) rfl ?_); refine goesL_ (some 36) rfl rfl Try.func24 (by kernel_rfl) rfl #[.agg #[.int .i64 a0_0, .int .i64 a0_1, .int .i64 a0_2, .slice A0_3 l0_3.length c0_3, .slice A0_4 l0_4.length c0_4, .slice A0_5 l0_5.length c0_5]] rfl mpx6 ?_; (with_reducible refine (laws_toModel.calls k a0_0 a0_1 a0_2 _ _ l0_3 _ _ l0_4 _ _ l0_5 t250 t251 t252 t253 t256 t259 _ ?side1 ?side2 ?side3 ?side4 ?side5 ?side6 A22.out).mono ?_); (case side1 => exact rCx6 (Kd.C_below HR0_3.out HB.out)); (case side2 => exact HC0_3.out); (case side3 => exact rCx6 (Kd.C_below HR0_4.out HB.out)); (case side4 => exact HC0_4.out); (case side5 => exact rCx6 (Kd.C_below HR0_5.out HB.out)); (case side6 => exact HC0_5.out); rintro e w44 ⟨v254, v257, v260, rfl, ho0, ho1, ho2, hb⟩; refine ⟨_, rfl, ?_⟩; have HO255 := Aside0.mk (Kd.R_lower (nwx6 (nwx6 (nwx6 (nwx6 (nwx6 (nwx6 (nwx6 ho0 (rRx6 HO227.out)) (rRx6 HO230.out)) (rRx6 HO233.out)) (rRx6 HO239.out)) (rRx6 HO242.out)) (rRx6 HO245.out)) (rRx6 HO248.out)) (below_size (be2x6 HB.out GE218.out GE219.out))); have HO258 := Aside0.mk (Kd.R_lower (nwx6 (nwx6 (nwx6 (nwx6 (nwx6 (nwx6 (nwx6 ho1 (rRx6 HO227.out)) (rRx6 HO230.out)) (rRx6 HO233.out)) (rRx6 HO239.out)) (rRx6 HO242.out)) (rRx6 HO245.out)) (rRx6 HO248.out)) (below_size (be2x6 HB.out GE218.out GE219.out))); have HO261 := Aside0.mk (Kd.R_lower (nwx6 (nwx6 (nwx6 (nwx6 (nwx6 (nwx6 (nwx6 ho2 (rRx6 HO227.out)) (rRx6 HO230.out)) (rRx6 HO233.out)) (rRx6 HO239.out)) (rRx6 HO242.out)) (rRx6 HO245.out)) (rRx6 HO248.out)) (below_size (be2x6 HB.out GE218.out GE219.out))); replace HO227 := Aside0.mk (kp3x6 (rRx6 HO227.out) hb ho0 ho1 ho2); replace HO230 := Aside0.mk (kp3x6 (rRx6 HO230.out) hb ho0 ho1 ho2); replace HO233 := Aside0.mk (kp3x6 (rRx6 HO233.out) hb ho0 ho1 ho2); replace HO239 := Aside0.mk (kp3x6 (rRx6 HO239.out) hb ho0 ho1 ho2); replace HO242 := Aside0.mk (kp3x6 (rRx6 HO242.out) hb ho0 ho1 ho2); replace HO245 := Aside0.mk (kp3x6 (rRx6 HO245.out) hb ho0 ho1 ho2); replace HO248 := Aside0.mk (kp3x6 (rRx6 HO248.out) hb ho0 ho1 ho2); replace BK218 := Aside0.mk (blk_below (g := gb218) (o := .cells #[.int .i64 a0_0, .int .i64 a0_1, .int .i64 a0_2, .slice A0_3 l0_3.length c0_3, .slice A0_4 l0_4.length c0_4, .slice A0_5 l0_5.length c0_5] 38 (0, 0)) (rBx6 BK218.out) hb); replace BK219 := Aside0.mk (blk_below (g := gb219) (o := .cells #[.int .i64 a1_0, .int .i64 a1_1, .int .i64 a1_2, .slice A1_3 l1_3.length c1_3, .slice A1_4 l1_4.length c1_4, .slice A1_5 l1_5.length c1_5] 38 (0, 0)) (rBx6 BK219.out) hb); replace HB := Aside0.mk (below_step (be2x6 HB.out GE218.out GE219.out) hb); (try clear hb); (try clear hb2); (try clear hk); (try clear hi); (try clear ho0); (try clear ho1); (try clear ho2)) | ((with_reducible refine gate_dst (N := 8) rfl ?_); refine box_event ?hg (N := 8) ?hd (cs := #[.int .i64 0, .int .i64 0, .int .i64 0, .slice none 0 0, .slice none 0 0, .slice none 0 0]) (t := 44) ?hr ?_; (case hd => rfl); (case hg => rfl); (case hr => first | (go_simp; done) | (go_simp; rfl)); intro gb262 hg w45 hbox hb; replace HO227 := Aside0.mk (Kd.R_below (rRx6 HO227.out) hb); replace HO230 := Aside0.mk (Kd.R_below (rRx6 HO230.out) hb); replace HO233 := Aside0.mk (Kd.R_below (rRx6 HO233.out) hb); replace HO239 := Aside0.mk (Kd.R_below (rRx6 HO239.out) hb); replace HO242 := Aside0.mk (Kd.R_below (rRx6 HO242.out) hb); replace HO245 := Aside0.mk (Kd.R_below (rRx6 HO245.out) hb); replace HO248 := Aside0.mk (Kd.R_below (rRx6 HO248.out) hb); replace HO255 := Aside0.mk (Kd.R_below (rRx6 HO255.out) hb); replace HO258 := Aside0.mk (Kd.R_below (rRx6 HO258.out) hb); replace HO261 := Aside0.mk (Kd.R_below (rRx6 HO261.out) hb); have BK262 := Aside0.mk (hbox); have GW262 := Aside0.mk ((by rw [hg]; exact (below_size (be2x6 HB.out GE218.out GE219.out)) : w.heap.size ≤ gb262)); have GE262 := Aside0.mk ((by rw [hg]; exact (below_size (be2x6 HB.out GE218.out GE219.out)) : w.heap.size ≤ gb262)); replace HB := Aside0.mk (below_step (be2x6 HB.out GE218.out GE219.out) hb); have NB218_262 := Aside0.mk ((by rw [hg]; exact Nat.ne_of_lt (blk_lt (g := gb218) (o := .cells #[.int .i64 a0_0, .int .i64 a0_1, .int .i64 a0_2, .slice A0_3 l0_3.length c0_3, .slice A0_4 l0_4.length c0_4, .slice A0_5 l0_5.length c0_5] 38 (0, 0)) (rBx6 BK218.out)) : gb218 ≠ gb262)); have NB262_218 := Aside0.mk ((by rw [hg]; exact Nat.ne_of_gt (blk_lt (g := gb218) (o := .cells #[.int .i64 a0_0, .int .i64 a0_1, .int .i64 a0_2, .slice A0_3 l0_3.length c0_3, .slice A0_4 l0_4.length c0_4, .slice A0_5 l0_5.length c0_5] 38 (0, 0)) (rBx6 BK218.out)) : gb262 ≠ gb218)); replace BK218 := Aside0.mk (blk_below (g := gb218) (o := .cells #[.int .i64 a0_0, .int .i64 a0_1, .int .i64 a0_2, .slice A0_3 l0_3.length c0_3, .slice A0_4 l0_4.length c0_4, .slice A0_5 l0_5.length c0_5] 38 (0, 0)) (rBx6 BK218.out) hb); have NB219_262 := Aside0.mk ((by rw [hg]; exact Nat.ne_of_lt (blk_lt (g := gb219) (o := .cells #[.int .i64 a1_0, .int .i64 a1_1, .int .i64 a1_2, .slice A1_3 l1_3.length c1_3, .slice A1_4 l1_4.length c1_4, .slice A1_5 l1_5.length c1_5] 38 (0, 0)) (rBx6 BK219.out)) : gb219 ≠ gb262)); have NB262_219 := Aside0.mk ((by rw [hg]; exact Nat.ne_of_gt (blk_lt (g := gb219) (o := .cells #[.int .i64 a1_0, .int .i64 a1_1, .int .i64 a1_2, .slice A1_3 l1_3.length c1_3, .slice A1_4 l1_4.length c1_4, .slice A1_5 l1_5.length c1_5] 38 (0, 0)) (rBx6 BK219.out)) : gb262 ≠ gb219)); replace BK219 := Aside0.mk (blk_below (g := gb219) (o := .cells #[.int .i64 a1_0, .int .i64 a1_1, .int .i64 a1_2, .slice A1_3 l1_3.length c1_3, .slice A1_4 l1_4.length c1_4, .slice A1_5 l1_5.length c1_5] 38 (0, 0)) (rBx6 BK219.out) hb); clear hb hbox hg; have hnb46 := NB262_218.out; have hnc46 := NB218_262.out; have hnb47 := NB262_219.out; have hnc47 := NB219_262.out; obtain ⟨hcz48_0, hcz48_1, hcz48_2, hcz48_3, hcz48_4, hcz48_5, hfz48_0, hfz48_1, hfz48_2, hfz48_3, hfz48_4, hfz48_5⟩ := cf6x6 BK262.out; obtain ⟨Ao49, co49, eo49⟩ := Kd.R_slice HO255.out; subst eo49; obtain ⟨Ao50, co50, eo50⟩ := Kd.R_slice HO258.out; subst eo50; obtain ⟨Ao51, co51, eo51⟩ := Kd.R_slice HO261.out; subst eo51; obtain ⟨hcz52_0, hcz52_1, hcz52_2, hcz52_3, hcz52_4, hcz52_5, hfz52_0, hfz52_1, hfz52_2, hfz52_3, hfz52_4, hfz52_5⟩ := cf6x6 BK219.out) | ((with_reducible refine gate_callee (f := 24) rfl ?_); refine goesL_ (some 38) rfl rfl Try.func24 (by kernel_rfl) rfl #[.agg #[.int .i64 a1_0, .int .i64 a1_1, .int .i64 a1_2, .slice A1_3 l1_3.length c1_3, .slice A1_4 l1_4.length c1_4, .slice A1_5 l1_5.length c1_5]] rfl mpx6 ?_; (with_reducible refine (laws_toModel.calls k a1_0 a1_1 a1_2 _ _ l1_3 _ _ l1_4 _ _ l1_5 t263 t264 t265 t266 t269 t272 _ ?side1 ?side2 ?side3 ?side4 ?side5 ?side6 A23.out).mono ?_); (case side1 => exact Kd.C_below HR1_3.out (be3x6 HB.out GE218.out GE219.out GE262.out)); (case side2 => exact HC1_3.out); (case side3 => exact Kd.C_below HR1_4.out (be3x6 HB.out GE218.out GE219.out GE262.out)); (case side4 => exact HC1_4.out); (case side5 => exact Kd.C_below HR1_5.out (be3x6 HB.out GE218.out GE219.out GE262.out)); (case side6 => exact HC1_5.out); rintro e w53 ⟨v267, v270, v273, rfl, ho0, ho1, ho2, hb⟩; refine ⟨_, rfl, ?_⟩; have HO268 := Aside0.mk (Kd.R_lower (nwx6 (nwx6 (nwx6 (nwx6 (nwx6 (nwx6 (nwx6 (nwx6 (nwx6 (nwx6 ho0 (sR6x6 HO227.out BK262.out)) (sR6x6 HO230.out BK262.out)) (sR6x6 HO233.out BK262.out)) (sR6x6 HO239.out BK262.out)) (sR6x6 HO242.out BK262.out)) (sR6x6 HO245.out BK262.out)) (sR6x6 HO248.out BK262.out)) (sR6x6 HO255.out BK262.out)) (sR6x6 HO258.out BK262.out)) (sR6x6 HO261.out BK262.out)) (below_size (be3x6 HB.out GE218.out GE219.out GE262.out))); have HO271 := Aside0.mk (Kd.R_lower (nwx6 (nwx6 (nwx6 (nwx6 (nwx6 (nwx6 (nwx6 (nwx6 (nwx6 (nwx6 ho1 (sR6x6 HO227.out BK262.out)) (sR6x6 HO230.out BK262.out)) (sR6x6 HO233.out BK262.out)) (sR6x6 HO239.out BK262.out)) (sR6x6 HO242.out BK262.out)) (sR6x6 HO245.out BK262.out)) (sR6x6 HO248.out BK262.out)) (sR6x6 HO255.out BK262.out)) (sR6x6 HO258.out BK262.out)) (sR6x6 HO261.out BK262.out)) (below_size (be3x6 HB.out GE218.out GE219.out GE262.out))); have HO274 := Aside0.mk (Kd.R_lower (nwx6 (nwx6 (nwx6 (nwx6 (nwx6 (nwx6 (nwx6 (nwx6 (nwx6 (nwx6 ho2 (sR6x6 HO227.out BK262.out)) (sR6x6 HO230.out BK262.out)) (sR6x6 HO233.out BK262.out)) (sR6x6 HO239.out BK262.out)) (sR6x6 HO242.out BK262.out)) (sR6x6 HO245.out BK262.out)) (sR6x6 HO248.out BK262.out)) (sR6x6 HO255.out BK262.out)) (sR6x6 HO258.out BK262.out)) (sR6x6 HO261.out BK262.out)) (below_size (be3x6 HB.out GE218.out GE219.out GE262.out))); replace HO227 := Aside0.mk (kp3x6 (sR6x6 HO227.out BK262.out) hb ho0 ho1 ho2); replace HO230 := Aside0.mk (kp3x6 (sR6x6 HO230.out BK262.out) hb ho0 ho1 ho2); replace HO233 := Aside0.mk (kp3x6 (sR6x6 HO233.out BK262.out) hb ho0 ho1 ho2); replace HO239 := Aside0.mk (kp3x6 (sR6x6 HO239.out BK262.out) hb ho0 ho1 ho2); replace HO242 := Aside0.mk (kp3x6 (sR6x6 HO242.out BK262.out) hb ho0 ho1 ho2); replace HO245 := Aside0.mk (kp3x6 (sR6x6 HO245.out BK262.out) hb ho0 ho1 ho2); replace HO248 := Aside0.mk (kp3x6 (sR6x6 HO248.out BK262.out) hb ho0 ho1 ho2); replace HO255 := Aside0.mk (kp3x6 (sR6x6 HO255.out BK262.out) hb ho0 ho1 ho2); replace HO258 := Aside0.mk (kp3x6 (sR6x6 HO258.out BK262.out) hb ho0 ho1 ho2); replace HO261 := Aside0.mk (kp3x6 (sR6x6 HO261.out BK262.out) hb ho0 ho1 ho2); replace BK218 := Aside0.mk (blk_below (g := gb218) (o := .cells #[.int .i64 a0_0, .int .i64 a0_1, .int .i64 a0_2, .slice A0_3 l0_3.length c0_3, .slice A0_4 l0_4.length c0_4, .slice A0_5 l0_5.length c0_5] 38 (0, 0)) (bb6x6 BK218.out NB218_262.out) hb); replace BK219 := Aside0.mk (blk_below (g := gb219) (o := .cells #[.int .i64 a1_0, .int .i64 a1_1, .int .i64 a1_2, .slice A1_3 l1_3.length c1_3, .slice A1_4 l1_4.length c1_4, .slice A1_5 l1_5.length c1_5] 38 (0, 0)) (bb6x6 BK219.out NB219_262.out) hb); replace BK262 := Aside0.mk (blk_below (g := gb262) (o := .cells #[.int .i64 t250, .int .i64 t251, .int .i64 t252, .slice Ao49 t253.length co49, .slice Ao50 t256.length co50, .slice Ao51 t259.length co51] 44 (0, 0)) (by (with_reducible repeat (first | refine blk_drewN ?_ _ | refine blk_drew ?_ | refine blk_alloc ?_ _)); refine blk_put (cs := #[.int .i64 t250, .int .i64 t251, .int .i64 t252, .slice Ao49 t253.length co49, .slice Ao50 t256.length co50, .slice none 0 0]) ?_ 5 _ rfl; (with_reducible repeat (first | refine blk_drewN ?_ _ | refine blk_drew ?_ | refine blk_alloc ?_ _)); refine blk_put (cs := #[.int .i64 t250, .int .i64 t251, .int .i64 t252, .slice Ao49 t253.length co49, .slice none 0 0, .slice none 0 0]) ?_ 4 _ rfl; (with_reducible repeat (first | refine blk_drewN ?_ _ | refine blk_drew ?_ | refine blk_alloc ?_ _)); refine blk_put (cs := #[.int .i64 t250, .int .i64 t251, .int .i64 t252, .slice none 0 0, .slice none 0 0, .slice none 0 0]) ?_ 3 _ rfl; (with_reducible repeat (first | refine blk_drewN ?_ _ | refine blk_drew ?_ | refine blk_alloc ?_ _)); refine blk_put (cs := #[.int .i64 t250, .int .i64 t251, .int .i64 0, .slice none 0 0, .slice none 0 0, .slice none 0 0]) ?_ 2 _ rfl; (with_reducible repeat (first | refine blk_drewN ?_ _ | refine blk_drew ?_ | refine blk_alloc ?_ _)); refine blk_put (cs := #[.int .i64 t250, .int .i64 0, .int .i64 0, .slice none 0 0, .slice none 0 0, .slice none 0 0]) ?_ 1 _ rfl; (with_reducible repeat (first | refine blk_drewN ?_ _ | refine blk_drew ?_ | refine blk_alloc ?_ _)); refine blk_put (cs := #[.int .i64 0, .int .i64 0, .int .i64 0, .slice none 0 0, .slice none 0 0, .slice none 0 0]) ?_ 0 _ rfl; (with_reducible repeat (first | refine blk_drewN ?_ _ | refine blk_drew ?_ | refine blk_alloc ?_ _)); exact BK262.out) hb); replace HB := Aside0.mk (below_step (be3x6 HB.out GE218.out GE219.out GE262.out) hb); (try clear hb); (try clear hb2); (try clear hk); (try clear hi); (try clear ho0); (try clear ho1); (try clear ho2)) | ((with_reducible refine gate_dst (N := 9) rfl ?_); refine box_event ?hg (N := 9) ?hd (cs := #[.int .i64 0, .int .i64 0, .int .i64 0, .slice none 0 0, .slice none 0 0, .slice none 0 0]) (t := 44) ?hr ?_; (case hd => rfl); (case hg => rfl); (case hr => first | (go_simp; done) | (go_simp; rfl)); intro gb275 hg w54 hbox hb; replace HO227 := Aside0.mk (Kd.R_below (rRx6 HO227.out) hb); replace HO230 := Aside0.mk (Kd.R_below (rRx6 HO230.out) hb); replace HO233 := Aside0.mk (Kd.R_below (rRx6 HO233.out) hb); replace HO239 := Aside0.mk (Kd.R_below (rRx6 HO239.out) hb); replace HO242 := Aside0.mk (Kd.R_below (rRx6 HO242.out) hb); replace HO245 := Aside0.mk (Kd.R_below (rRx6 HO245.out) hb); replace HO248 := Aside0.mk (Kd.R_below (rRx6 HO248.out) hb); replace HO255 := Aside0.mk (Kd.R_below (rRx6 HO255.out) hb); replace HO258 := Aside0.mk (Kd.R_below (rRx6 HO258.out) hb); replace HO261 := Aside0.mk (Kd.R_below (rRx6 HO261.out) hb); replace HO268 := Aside0.mk (Kd.R_below (rRx6 HO268.out) hb); replace HO271 := Aside0.mk (Kd.R_below (rRx6 HO271.out) hb); replace HO274 := Aside0.mk (Kd.R_below (rRx6 HO274.out) hb); have BK275 := Aside0.mk (hbox); have GW275 := Aside0.mk ((by rw [hg]; exact (below_size (be3x6 HB.out GE218.out GE219.out GE262.out)) : w.heap.size ≤ gb275)); have GE275 := Aside0.mk ((by rw [hg]; exact (below_size (be3x6 HB.out GE218.out GE219.out GE262.out)) : w.heap.size ≤ gb275)); replace HB := Aside0.mk (below_step (be3x6 HB.out GE218.out GE219.out GE262.out) hb); have NB218_275 := Aside0.mk ((by rw [hg]; exact Nat.ne_of_lt (blk_lt (g := gb218) (o := .cells #[.int .i64 a0_0, .int .i64 a0_1, .int .i64 a0_2, .slice A0_3 l0_3.length c0_3, .slice A0_4 l0_4.length c0_4, .slice A0_5 l0_5.length c0_5] 38 (0, 0)) (rBx6 BK218.out)) : gb218 ≠ gb275)); have NB275_218 := Aside0.mk ((by rw [hg]; exact Nat.ne_of_gt (blk_lt (g := gb218) (o := .cells #[.int .i64 a0_0, .int .i64 a0_1, .int .i64 a0_2, .slice A0_3 l0_3.length c0_3, .slice A0_4 l0_4.length c0_4, .slice A0_5 l0_5.length c0_5] 38 (0, 0)) (rBx6 BK218.out)) : gb275 ≠ gb218)); replace BK218 := Aside0.mk (blk_below (g := gb218) (o := .cells #[.int .i64 a0_0, .int .i64 a0_1, .int .i64 a0_2, .slice A0_3 l0_3.length c0_3, .slice A0_4 l0_4.length c0_4, .slice A0_5 l0_5.length c0_5] 38 (0, 0)) (rBx6 BK218.out) hb); have NB219_275 := Aside0.mk ((by rw [hg]; exact Nat.ne_of_lt (blk_lt (g := gb219) (o := .cells #[.int .i64 a1_0, .int .i64 a1_1, .int .i64 a1_2, .slice A1_3 l1_3.length c1_3, .slice A1_4 l1_4.length c1_4, .slice A1_5 l1_5.length c1_5] 38 (0, 0)) (rBx6 BK219.out)) : gb219 ≠ gb275)); have NB275_219 := Aside0.mk ((by rw [hg]; exact Nat.ne_of_gt (blk_lt (g := gb219) (o := .cells #[.int .i64 a1_0, .int .i64 a1_1, .int .i64 a1_2, .slice A1_3 l1_3.length c1_3, .slice A1_4 l1_4.length c1_4, .slice A1_5 l1_5.length c1_5] 38 (0, 0)) (rBx6 BK219.out)) : gb275 ≠ gb219)); replace BK219 := Aside0.mk (blk_below (g := gb219) (o := .cells #[.int .i64 a1_0, .int .i64 a1_1, .int .i64 a1_2, .slice A1_3 l1_3.length c1_3, .slice A1_4 l1_4.length c1_4, .slice A1_5 l1_5.length c1_5] 38 (0, 0)) (rBx6 BK219.out) hb); have NB262_275 := Aside0.mk ((by rw [hg]; exact Nat.ne_of_lt (blk_lt (g := gb262) (o := .cells #[.int .i64 t250, .int .i64 t251, .int .i64 t252, .slice Ao49 t253.length co49, .slice Ao50 t256.length co50, .slice Ao51 t259.length co51] 44 (0, 0)) (rBx6 BK262.out)) : gb262 ≠ gb275)); have NB275_262 := Aside0.mk ((by rw [hg]; exact Nat.ne_of_gt (blk_lt (g := gb262) (o := .cells #[.int .i64 t250, .int .i64 t251, .int .i64 t252, .slice Ao49 t253.length co49, .slice Ao50 t256.length co50, .slice Ao51 t259.length co51] 44 (0, 0)) (rBx6 BK262.out)) : gb275 ≠ gb262)); replace BK262 := Aside0.mk (blk_below (g := gb262) (o := .cells #[.int .i64 t250, .int .i64 t251, .int .i64 t252, .slice Ao49 t253.length co49, .slice Ao50 t256.length co50, .slice Ao51 t259.length co51] 44 (0, 0)) (rBx6 BK262.out) hb); clear hb hbox hg; have hnb55 := NB275_218.out; have hnc55 := NB218_275.out; have hnb56 := NB275_219.out; have hnc56 := NB219_275.out; have hnb57 := NB275_262.out; have hnc57 := NB262_275.out; obtain ⟨hcz58_0, hcz58_1, hcz58_2, hcz58_3, hcz58_4, hcz58_5, hfz58_0, hfz58_1, hfz58_2, hfz58_3, hfz58_4, hfz58_5⟩ := cf6x6 BK275.out; obtain ⟨Ao59, co59, eo59⟩ := Kd.R_slice HO268.out; subst eo59; obtain ⟨Ao60, co60, eo60⟩ := Kd.R_slice HO271.out; subst eo60; obtain ⟨Ao61, co61, eo61⟩ := Kd.R_slice HO274.out; subst eo61; obtain ⟨hcz62_0, hcz62_1, hcz62_2, hcz62_3, hcz62_4, hcz62_5, hfz62_0, hfz62_1, hfz62_2, hfz62_3, hfz62_4, hfz62_5⟩ := cf6x6 BK262.out) | ((with_reducible refine gate_callee (f := 34) rfl ?_); refine goesL_ (some 42) rfl rfl Try.func34 (by kernel_rfl) rfl #[.agg #[.int .i64 t250, .int .i64 t251, .int .i64 t252, .slice Ao49 t253.length co49, .slice Ao50 t256.length co50, .slice Ao51 t259.length co51], .agg #[.int .i64 t263, .int .i64 t264, .int .i64 t265, .slice Ao59 t266.length co59, .slice Ao60 t269.length co60, .slice Ao61 t272.length co61]] rfl mpx6 ?_; (with_reducible refine (impl_ChangedBlocks.calls k t250 t251 t252 _ _ t253 _ _ t256 _ _ t259 t263 t264 t265 _ _ t266 _ _ t269 _ _ t272 t276 t279 _ ?side1 ?side2 ?side3 ?side4 ?side5 ?side6 ?side7 ?side8 ?side9 ?side10 ?side11 ?side12 A24.out).mono ?_); (case side1 => exact cS6x6 HO255.out BK275.out); (case side2 => exact (Kd.R_reads' HO255.out).2.1); (case side3 => exact cS6x6 HO258.out BK275.out); (case side4 => exact (Kd.R_reads' HO258.out).2.1); (case side5 => exact cS6x6 HO261.out BK275.out); (case side6 => exact (Kd.R_reads' HO261.out).2.1); (case side7 => exact cS6x6 HO268.out BK275.out); (case side8 => exact (Kd.R_reads' HO268.out).2.1); (case side9 => exact cS6x6 HO271.out BK275.out); (case side10 => exact (Kd.R_reads' HO271.out).2.1); (case side11 => exact cS6x6 HO274.out BK275.out); (case side12 => exact (Kd.R_reads' HO274.out).2.1); rintro e w63 ⟨v277, rfl, ho0, hb⟩; refine ⟨_, rfl, ?_⟩; have HO278 := Aside0.mk (Kd.R_lower (nwx6 (nwx6 (nwx6 (nwx6 (nwx6 (nwx6 (nwx6 (nwx6 (nwx6 (nwx6 (nwx6 (nwx6 (nwx6 ho0 (sR6x6 HO227.out BK275.out)) (sR6x6 HO230.out BK275.out)) (sR6x6 HO233.out BK275.out)) (sR6x6 HO239.out BK275.out)) (sR6x6 HO242.out BK275.out)) (sR6x6 HO245.out BK275.out)) (sR6x6 HO248.out BK275.out)) (sR6x6 HO255.out BK275.out)) (sR6x6 HO258.out BK275.out)) (sR6x6 HO261.out BK275.out)) (sR6x6 HO268.out BK275.out)) (sR6x6 HO271.out BK275.out)) (sR6x6 HO274.out BK275.out)) (below_size (be4x6 HB.out GE218.out GE219.out GE262.out GE275.out))); replace HO227 := Aside0.mk (Kd.R_elder' (sR6x6 HO227.out BK275.out) (Kd.R_base ho0) hb); replace HO230 := Aside0.mk (Kd.R_elder' (sR6x6 HO230.out BK275.out) (Kd.R_base ho0) hb); replace HO233 := Aside0.mk (Kd.R_elder' (sR6x6 HO233.out BK275.out) (Kd.R_base ho0) hb); replace HO239 := Aside0.mk (Kd.R_elder' (sR6x6 HO239.out BK275.out) (Kd.R_base ho0) hb); replace HO242 := Aside0.mk (Kd.R_elder' (sR6x6 HO242.out BK275.out) (Kd.R_base ho0) hb); replace HO245 := Aside0.mk (Kd.R_elder' (sR6x6 HO245.out BK275.out) (Kd.R_base ho0) hb); replace HO248 := Aside0.mk (Kd.R_elder' (sR6x6 HO248.out BK275.out) (Kd.R_base ho0) hb); replace HO255 := Aside0.mk (Kd.R_elder' (sR6x6 HO255.out BK275.out) (Kd.R_base ho0) hb); replace HO258 := Aside0.mk (Kd.R_elder' (sR6x6 HO258.out BK275.out) (Kd.R_base ho0) hb); replace HO261 := Aside0.mk (Kd.R_elder' (sR6x6 HO261.out BK275.out) (Kd.R_base ho0) hb); replace HO268 := Aside0.mk (Kd.R_elder' (sR6x6 HO268.out BK275.out) (Kd.R_base ho0) hb); replace HO271 := Aside0.mk (Kd.R_elder' (sR6x6 HO271.out BK275.out) (Kd.R_base ho0) hb); replace HO274 := Aside0.mk (Kd.R_elder' (sR6x6 HO274.out BK275.out) (Kd.R_base ho0) hb); replace BK218 := Aside0.mk (blk_below (g := gb218) (o := .cells #[.int .i64 a0_0, .int .i64 a0_1, .int .i64 a0_2, .slice A0_3 l0_3.length c0_3, .slice A0_4 l0_4.length c0_4, .slice A0_5 l0_5.length c0_5] 38 (0, 0)) (bb6x6 BK218.out NB218_275.out) hb); replace BK219 := Aside0.mk (blk_below (g := gb219) (o := .cells #[.int .i64 a1_0, .int .i64 a1_1, .int .i64 a1_2, .slice A1_3 l1_3.length c1_3, .slice A1_4 l1_4.length c1_4, .slice A1_5 l1_5.length c1_5] 38 (0, 0)) (bb6x6 BK219.out NB219_275.out) hb); replace BK262 := Aside0.mk (blk_below (g := gb262) (o := .cells #[.int .i64 t250, .int .i64 t251, .int .i64 t252, .slice Ao49 t253.length co49, .slice Ao50 t256.length co50, .slice Ao51 t259.length co51] 44 (0, 0)) (bb6x6 BK262.out NB262_275.out) hb); replace BK275 := Aside0.mk (blk_below (g := gb275) (o := .cells #[.int .i64 t263, .int .i64 t264, .int .i64 t265, .slice Ao59 t266.length co59, .slice Ao60 t269.length co60, .slice Ao61 t272.length co61] 44 (0, 0)) (by (with_reducible repeat (first | refine blk_drewN ?_ _ | refine blk_drew ?_ | refine blk_alloc ?_ _)); refine blk_put (cs := #[.int .i64 t263, .int .i64 t264, .int .i64 t265, .slice Ao59 t266.length co59, .slice Ao60 t269.length co60, .slice none 0 0]) ?_ 5 _ rfl; (with_reducible repeat (first | refine blk_drewN ?_ _ | refine blk_drew ?_ | refine blk_alloc ?_ _)); refine blk_put (cs := #[.int .i64 t263, .int .i64 t264, .int .i64 t265, .slice Ao59 t266.length co59, .slice none 0 0, .slice none 0 0]) ?_ 4 _ rfl; (with_reducible repeat (first | refine blk_drewN ?_ _ | refine blk_drew ?_ | refine blk_alloc ?_ _)); refine blk_put (cs := #[.int .i64 t263, .int .i64 t264, .int .i64 t265, .slice none 0 0, .slice none 0 0, .slice none 0 0]) ?_ 3 _ rfl; (with_reducible repeat (first | refine blk_drewN ?_ _ | refine blk_drew ?_ | refine blk_alloc ?_ _)); refine blk_put (cs := #[.int .i64 t263, .int .i64 t264, .int .i64 0, .slice none 0 0, .slice none 0 0, .slice none 0 0]) ?_ 2 _ rfl; (with_reducible repeat (first | refine blk_drewN ?_ _ | refine blk_drew ?_ | refine blk_alloc ?_ _)); refine blk_put (cs := #[.int .i64 t263, .int .i64 0, .int .i64 0, .slice none 0 0, .slice none 0 0, .slice none 0 0]) ?_ 1 _ rfl; (with_reducible repeat (first | refine blk_drewN ?_ _ | refine blk_drew ?_ | refine blk_alloc ?_ _)); refine blk_put (cs := #[.int .i64 0, .int .i64 0, .int .i64 0, .slice none 0 0, .slice none 0 0, .slice none 0 0]) ?_ 0 _ rfl; (with_reducible repeat (first | refine blk_drewN ?_ _ | refine blk_drew ?_ | refine blk_alloc ?_ _)); exact BK275.out) hb); replace HB := Aside0.mk (below_step (be4x6 HB.out GE218.out GE219.out GE262.out GE275.out) hb); (try clear hb); (try clear hb2); (try clear hk); (try clear hi); (try clear ho0)))
   (try simp only [Act.put, List.setIfInBounds_toArray, List.set_cons_zero, List.set_cons_succ])
   go_cut [53] (fun v53 wc => ∃ (kq : Nat) (x53_24 : Bool), v53 = .bool x53_24 ∧ Aside0 (laws_FnExactChangedBlocks.j0 kq t246 t249 t276 t279 x53_24 a0_0 a0_1 a0_2 l0_3 l0_4 l0_5 a1_0 a1_1 a1_2 l1_3 l1_4 l1_5 t250 t251 t252 t253 t256 t259 t263 t264 t265 t266 t269 t272 = some r) ∧ Aside0 (kq ≤ k) ∧ Aside0 (Kd.R (Kd.int .i64) 3 wc w.heap.size (fun k_ => some k_ ≠ (v277 : Value).ownBlock ∧ some k_ ≠ ((.slice Ao49 t253.length co49) : Value).ownBlock ∧ some k_ ≠ ((.slice Ao50 t256.length co50) : Value).ownBlock ∧ some k_ ≠ ((.slice Ao51 t259.length co51) : Value).ownBlock ∧ some k_ ≠ ((.slice Ao59 t266.length co59) : Value).ownBlock ∧ some k_ ≠ ((.slice Ao60 t269.length co60) : Value).ownBlock ∧ some k_ ≠ ((.slice Ao61 t272.length co61) : Value).ownBlock) v247 t246) ∧ Aside0 (Kd.R (Kd.int .i64) 3 wc w.heap.size (fun k_ => some k_ ≠ (v247 : Value).ownBlock ∧ some k_ ≠ ((.slice Ao49 t253.length co49) : Value).ownBlock ∧ some k_ ≠ ((.slice Ao50 t256.length co50) : Value).ownBlock ∧ some k_ ≠ ((.slice Ao51 t259.length co51) : Value).ownBlock ∧ some k_ ≠ ((.slice Ao59 t266.length co59) : Value).ownBlock ∧ some k_ ≠ ((.slice Ao60 t269.length co60) : Value).ownBlock ∧ some k_ ≠ ((.slice Ao61 t272.length co61) : Value).ownBlock) v277 t276) ∧ Aside0 (Kd.R (Kd.int .i64) 3 wc w.heap.size (fun k_ => some k_ ≠ (v247 : Value).ownBlock ∧ some k_ ≠ (v277 : Value).ownBlock ∧ some k_ ≠ ((.slice Ao50 t256.length co50) : Value).ownBlock ∧ some k_ ≠ ((.slice Ao51 t259.length co51) : Value).ownBlock ∧ some k_ ≠ ((.slice Ao59 t266.length co59) : Value).ownBlock ∧ some k_ ≠ ((.slice Ao60 t269.length co60) : Value).ownBlock ∧ some k_ ≠ ((.slice Ao61 t272.length co61) : Value).ownBlock) (.slice Ao49 t253.length co49) t253) ∧ Aside0 (Kd.R (Kd.int .i64) 3 wc w.heap.size (fun k_ => some k_ ≠ (v247 : Value).ownBlock ∧ some k_ ≠ (v277 : Value).ownBlock ∧ some k_ ≠ ((.slice Ao49 t253.length co49) : Value).ownBlock ∧ some k_ ≠ ((.slice Ao51 t259.length co51) : Value).ownBlock ∧ some k_ ≠ ((.slice Ao59 t266.length co59) : Value).ownBlock ∧ some k_ ≠ ((.slice Ao60 t269.length co60) : Value).ownBlock ∧ some k_ ≠ ((.slice Ao61 t272.length co61) : Value).ownBlock) (.slice Ao50 t256.length co50) t256) ∧ Aside0 (Kd.R (Kd.int .i64) 3 wc w.heap.size (fun k_ => some k_ ≠ (v247 : Value).ownBlock ∧ some k_ ≠ (v277 : Value).ownBlock ∧ some k_ ≠ ((.slice Ao49 t253.length co49) : Value).ownBlock ∧ some k_ ≠ ((.slice Ao50 t256.length co50) : Value).ownBlock ∧ some k_ ≠ ((.slice Ao59 t266.length co59) : Value).ownBlock ∧ some k_ ≠ ((.slice Ao60 t269.length co60) : Value).ownBlock ∧ some k_ ≠ ((.slice Ao61 t272.length co61) : Value).ownBlock) (.slice Ao51 t259.length co51) t259) ∧ Aside0 (Kd.R (Kd.int .i64) 3 wc w.heap.size (fun k_ => some k_ ≠ (v247 : Value).ownBlock ∧ some k_ ≠ (v277 : Value).ownBlock ∧ some k_ ≠ ((.slice Ao49 t253.length co49) : Value).ownBlock ∧ some k_ ≠ ((.slice Ao50 t256.length co50) : Value).ownBlock ∧ some k_ ≠ ((.slice Ao51 t259.length co51) : Value).ownBlock ∧ some k_ ≠ ((.slice Ao60 t269.length co60) : Value).ownBlock ∧ some k_ ≠ ((.slice Ao61 t272.length co61) : Value).ownBlock) (.slice Ao59 t266.length co59) t266) ∧ Aside0 (Kd.R (Kd.int .i64) 3 wc w.heap.size (fun k_ => some k_ ≠ (v247 : Value).ownBlock ∧ some k_ ≠ (v277 : Value).ownBlock ∧ some k_ ≠ ((.slice Ao49 t253.length co49) : Value).ownBlock ∧ some k_ ≠ ((.slice Ao50 t256.length co50) : Value).ownBlock ∧ some k_ ≠ ((.slice Ao51 t259.length co51) : Value).ownBlock ∧ some k_ ≠ ((.slice Ao59 t266.length co59) : Value).ownBlock ∧ some k_ ≠ ((.slice Ao61 t272.length co61) : Value).ownBlock) (.slice Ao60 t269.length co60) t269) ∧ Aside0 (Kd.R (Kd.int .i64) 3 wc w.heap.size (fun k_ => some k_ ≠ (v247 : Value).ownBlock ∧ some k_ ≠ (v277 : Value).ownBlock ∧ some k_ ≠ ((.slice Ao49 t253.length co49) : Value).ownBlock ∧ some k_ ≠ ((.slice Ao50 t256.length co50) : Value).ownBlock ∧ some k_ ≠ ((.slice Ao51 t259.length co51) : Value).ownBlock ∧ some k_ ≠ ((.slice Ao59 t266.length co59) : Value).ownBlock ∧ some k_ ≠ ((.slice Ao60 t269.length co60) : Value).ownBlock) (.slice Ao61 t272.length co61) t272) ∧ Aside0 (wc.heap[gb218]? = some (.cells #[.int .i64 a0_0, .int .i64 a0_1, .int .i64 a0_2, (.slice A0_3 l0_3.length c0_3), (.slice A0_4 l0_4.length c0_4), (.slice A0_5 l0_5.length c0_5)] 38 (0, 0))) ∧ Aside0 (wc.heap[gb219]? = some (.cells #[.int .i64 a1_0, .int .i64 a1_1, .int .i64 a1_2, (.slice A1_3 l1_3.length c1_3), (.slice A1_4 l1_4.length c1_4), (.slice A1_5 l1_5.length c1_5)] 38 (0, 0))) ∧ Aside0 (wc.heap[gb262]? = some (.cells #[.int .i64 t250, .int .i64 t251, .int .i64 t252, (.slice Ao49 t253.length co49), (.slice Ao50 t256.length co50), (.slice Ao51 t259.length co51)] 44 (0, 0))) ∧ Aside0 (wc.heap[gb275]? = some (.cells #[.int .i64 t263, .int .i64 t264, .int .i64 t265, (.slice Ao59 t266.length co59), (.slice Ao60 t269.length co60), (.slice Ao61 t272.length co61)] 44 (0, 0))) ∧ Aside0 (Below w.heap.size w wc))
   case first =>
    have H := HC25.out
    clear HC25
    replace H := Option.bind_eq_some_iff.mp H
    obtain ⟨t280, A640, H⟩ := H
    have A64 := Aside0.mk A640
    clear A640
    by_cases c65 : t280 = true
    ·subst c65
     have H1 : (laws_FnExactChangedBlocks.j0 k t246 t249 t276 t279 (t279 != t249) a0_0 a0_1 a0_2 l0_3 l0_4 l0_5 a1_0 a1_1 a1_2 l1_3 l1_4 l1_5 t250 t251 t252 t253 t256 t259 t263 t264 t265 t266 t269 t272) = some r := by rw [if_pos rfl] at H; exact H
     clear H
     have H := H1
     clear H1
     have H' := Aside0.mk H
     clear H
     obtain ⟨Ao66, co66, eo66⟩ := Kd.R_slice HO278.out
     subst eo66
     obtain ⟨Ao67, co67, eo67⟩ := Kd.R_slice HO248.out
     subst eo67
     go_wp2_with (first | ((with_reducible refine gate_callee (f := 35) rfl ?_); refine goesL_ (some 47) rfl rfl Try.func35 (by kernel_rfl) rfl #[.slice Ao66 t276.length co66, .slice Ao67 t246.length co67] rfl mpx6 ?_; (with_reducible refine (laws_eqIntS.calls k _ _ t276 _ _ t246 true _ ?side1 ?side2 ?side3 ?side4 A64.out).mono ?_); (case side1 => exact cRx6 HO278.out); (case side2 => exact (Kd.R_reads' HO278.out).2.1); (case side3 => exact cRx6 HO248.out); (case side4 => exact (Kd.R_reads' HO248.out).2.1); rintro e w' ⟨rfl, ⟨nd, rfl⟩⟩; refine ⟨_, rfl, ?_⟩))
     go_meet
     case rel => exact ⟨_, ((t279 != t249)), (by first | rfl | (simp; done) | (simp [*]; done)), H', ⟨by first | omega | exact Nat.le_refl _⟩, ⟨by exact rRx6 (mox6 HO248.out)⟩, ⟨by exact rRx6 (mox6 HO278.out)⟩, ⟨by exact rRx6 (mox6 HO255.out)⟩, ⟨by exact rRx6 (mox6 HO258.out)⟩, ⟨by exact rRx6 (mox6 HO261.out)⟩, ⟨by exact rRx6 (mox6 HO268.out)⟩, ⟨by exact rRx6 (mox6 HO271.out)⟩, ⟨by exact rRx6 (mox6 HO274.out)⟩, ⟨rBx6 BK218.out⟩, ⟨rBx6 BK219.out⟩, ⟨rBx6 BK262.out⟩, ⟨rBx6 BK275.out⟩, ⟨be4x6 HB.out GE218.out GE219.out GE262.out GE275.out⟩⟩
    ·replace c65 := Bool.eq_false_iff.mpr c65
     subst c65
     have H1 : (laws_FnExactChangedBlocks.j0 k t246 t249 t276 t279 true a0_0 a0_1 a0_2 l0_3 l0_4 l0_5 a1_0 a1_1 a1_2 l1_3 l1_4 l1_5 t250 t251 t252 t253 t256 t259 t263 t264 t265 t266 t269 t272) = some r := by rw [if_neg (show ¬ (false = true) by decide)] at H; exact H
     clear H
     have H := H1
     clear H1
     have H' := Aside0.mk H
     clear H
     obtain ⟨Ao68, co68, eo68⟩ := Kd.R_slice HO278.out
     subst eo68
     obtain ⟨Ao69, co69, eo69⟩ := Kd.R_slice HO248.out
     subst eo69
     go_wp2_with (first | ((with_reducible refine gate_callee (f := 35) rfl ?_); refine goesL_ (some 47) rfl rfl Try.func35 (by kernel_rfl) rfl #[.slice Ao68 t276.length co68, .slice Ao69 t246.length co69] rfl mpx6 ?_; (with_reducible refine (laws_eqIntS.calls k _ _ t276 _ _ t246 false _ ?side1 ?side2 ?side3 ?side4 A64.out).mono ?_); (case side1 => exact cRx6 HO278.out); (case side2 => exact (Kd.R_reads' HO278.out).2.1); (case side3 => exact cRx6 HO248.out); (case side4 => exact (Kd.R_reads' HO248.out).2.1); rintro e w' ⟨rfl, ⟨nd, rfl⟩⟩; refine ⟨_, rfl, ?_⟩))
     go_meet
     case rel => exact ⟨_, (true), (by first | rfl | (simp; done) | (simp [*]; done)), H', ⟨by first | omega | exact Nat.le_refl _⟩, ⟨by exact rRx6 (mox6 HO248.out)⟩, ⟨by exact rRx6 (mox6 HO278.out)⟩, ⟨by exact rRx6 (mox6 HO255.out)⟩, ⟨by exact rRx6 (mox6 HO258.out)⟩, ⟨by exact rRx6 (mox6 HO261.out)⟩, ⟨by exact rRx6 (mox6 HO268.out)⟩, ⟨by exact rRx6 (mox6 HO271.out)⟩, ⟨by exact rRx6 (mox6 HO274.out)⟩, ⟨rBx6 BK218.out⟩, ⟨rBx6 BK219.out⟩, ⟨rBx6 BK262.out⟩, ⟨rBx6 BK275.out⟩, ⟨be4x6 HB.out GE218.out GE219.out GE262.out GE275.out⟩⟩
   case rest =>
    clear HC25
    try clear c4; try clear c4b0; try clear c11; try clear c11b0; try clear c65; try clear hcz15_0 hcz15_1 hcz15_2 hcz15_3 hcz15_4 hcz15_5; try clear hcz17_0 hcz17_1 hcz17_2 hcz17_3 hcz17_4 hcz17_5; try clear hcz29_0 hcz29_1 hcz29_2 hcz29_3 hcz29_4 hcz29_5; try clear hcz31_0 hcz31_1 hcz31_2 hcz31_3 hcz31_4 hcz31_5; try clear hcz43_0 hcz43_1 hcz43_2 hcz43_3 hcz43_4 hcz43_5; try clear hcz48_0 hcz48_1 hcz48_2 hcz48_3 hcz48_4 hcz48_5; try clear hcz52_0 hcz52_1 hcz52_2 hcz52_3 hcz52_4 hcz52_5; try clear hcz58_0 hcz58_1 hcz58_2 hcz58_3 hcz58_4 hcz58_5; try clear hcz62_0 hcz62_1 hcz62_2 hcz62_3 hcz62_4 hcz62_5; try clear hcz8_0 hcz8_1 hcz8_2 hcz8_3 hcz8_4 hcz8_5; try clear hfz15_0 hfz15_1 hfz15_2 hfz15_3 hfz15_4 hfz15_5; try clear hfz17_0 hfz17_1 hfz17_2 hfz17_3 hfz17_4 hfz17_5; try clear hfz29_0 hfz29_1 hfz29_2 hfz29_3 hfz29_4 hfz29_5; try clear hfz31_0 hfz31_1 hfz31_2 hfz31_3 hfz31_4 hfz31_5; try clear hfz43_0 hfz43_1 hfz43_2 hfz43_3 hfz43_4 hfz43_5; try clear hfz48_0 hfz48_1 hfz48_2 hfz48_3 hfz48_4 hfz48_5; try clear hfz52_0 hfz52_1 hfz52_2 hfz52_3 hfz52_4 hfz52_5; try clear hfz58_0 hfz58_1 hfz58_2 hfz58_3 hfz58_4 hfz58_5; try clear hfz62_0 hfz62_1 hfz62_2 hfz62_3 hfz62_4 hfz62_5; try clear hfz8_0 hfz8_1 hfz8_2 hfz8_3 hfz8_4 hfz8_5
    obtain ⟨kq, x53_24, rfl, HA, HJ24, HO_6, HO_10, HO_263003, HO_263004, HO_263005, HO_276003, HO_276004, HO_276005, BK218, BK219, BK262, BK275, HB⟩ := hcut
    cases kq with
    | zero => exact absurd HA.out (by simp [laws_FnExactChangedBlocks.j0])
    | succ kj24 =>
     have H := HA.out
     clear HA
     simp only [laws_FnExactChangedBlocks.j0] at H
     by_cases c70 : x53_24 = true
     ·subst c70
      have H1 : (some false) = some r := by rw [if_pos rfl] at H; exact H
      clear H
      have H := H1
      clear H1
      obtain rfl := Option.some.inj H
      go_wp2
      go_ret
      exact ⟨by first | rfl | (simp [errW_none, errW_some] <;> rfl) | (simp [*, errW_none, errW_some] <;> rfl), be4x6 HB.out GE218.out GE219.out GE262.out GE275.out⟩
     ·replace c70 := Bool.eq_false_iff.mpr c70
      subst c70
      have H1 : ((laws_toModel.f kj24 a0_0 a0_1 a0_2 l0_3 l0_4 l0_5).bind fun bt281 => ((laws_eqModel.f kj24 t250 t251 t252 t253 t256 t259 bt281.1 bt281.2.1 bt281.2.2.1 bt281.2.2.2.1 bt281.2.2.2.2.1 bt281.2.2.2.2.2).bind fun t293 => (if t293 = true then (laws_FnExactChangedBlocks.j1 kj24 t246 t249 t276 t279 a0_0 a0_1 a0_2 l0_3 l0_4 l0_5 a1_0 a1_1 a1_2 l1_3 l1_4 l1_5 t250 t251 t252 t253 t256 t259 t263 t264 t265 t266 t269 t272) else (some false)))) = some r := by rw [if_neg (show ¬ (false = true) by decide)] at H; exact H
      clear H
      have H := H1
      clear H1
      replace H := Option.bind_eq_some_iff.mp H
      obtain ⟨⟨t281, t282, t283, t284, t287, t290⟩, A710, H⟩ := H
      (try dsimp only at H)
      have A71 := Aside0.mk A710
      clear A710
      replace H := Option.bind_eq_some_iff.mp H
      obtain ⟨t293, A720, H⟩ := H
      have A72 := Aside0.mk A720
      clear A720
      have HC73 := Aside0.mk H
      clear H
      try go_wp2
      have n0_ := Aside0.mk (Kd.R_drew HO_6.out)
      have n1_ := Aside0.mk (Kd.R_drew HO_10.out)
      have n2_ := Aside0.mk (Kd.R_drew HO_263003.out)
      have n3_ := Aside0.mk (Kd.R_drew HO_263004.out)
      have n4_ := Aside0.mk (Kd.R_drew HO_263005.out)
      have n5_ := Aside0.mk (Kd.R_drew HO_276003.out)
      have n6_ := Aside0.mk (Kd.R_drew HO_276004.out)
      have n7_ := Aside0.mk (Kd.R_drew HO_276005.out)
      have n8_ := Aside0.mk (blk_drew BK218.out)
      have n9_ := Aside0.mk (blk_drew BK219.out)
      have n10_ := Aside0.mk (blk_drew BK262.out)
      have n11_ := Aside0.mk (blk_drew BK275.out)
      have n12_ := Aside0.mk (below_drew1 HB.out)
      clear HO_6
      clear HO_10
      clear HO_263003
      clear HO_263004
      clear HO_263005
      clear HO_276003
      clear HO_276004
      clear HO_276005
      clear BK218
      clear BK219
      clear BK262
      clear BK275
      clear HB
      have HO_6 := n0_
      have HO_10 := n1_
      have HO_263003 := n2_
      have HO_263004 := n3_
      have HO_263005 := n4_
      have HO_276003 := n5_
      have HO_276004 := n6_
      have HO_276005 := n7_
      have BK218 := n8_
      have BK219 := n9_
      have BK262 := n10_
      have BK275 := n11_
      have HB := n12_
      clear n0_ n1_ n2_ n3_ n4_ n5_ n6_ n7_ n8_ n9_ n10_ n11_ n12_
      refine start_ (n := 5) (S := fun w' => w'.cell? ⟨gb262, 0, none⟩ = some (.int .i64 t250) ∧ w'.cell? ⟨gb262, 1, none⟩ = some (.int .i64 t251) ∧ w'.cell? ⟨gb262, 2, none⟩ = some (.int .i64 t252) ∧ w'.cell? ⟨gb262, 3, none⟩ = some (.slice Ao49 t253.length co49) ∧ w'.cell? ⟨gb262, 4, none⟩ = some (.slice Ao50 t256.length co50) ∧ w'.cell? ⟨gb262, 5, none⟩ = some (.slice Ao51 t259.length co51) ∧ w'.cell? ⟨gb218, 0, none⟩ = some (.int .i64 a0_0) ∧ w'.cell? ⟨gb218, 1, none⟩ = some (.int .i64 a0_1) ∧ w'.cell? ⟨gb218, 2, none⟩ = some (.int .i64 a0_2) ∧ w'.cell? ⟨gb218, 3, none⟩ = some (.slice A0_3 l0_3.length c0_3) ∧ w'.cell? ⟨gb218, 4, none⟩ = some (.slice A0_4 l0_4.length c0_4) ∧ w'.cell? ⟨gb218, 5, none⟩ = some (.slice A0_5 l0_5.length c0_5)) (ds := []) #[false, false, false, false, false] (by kernel_rfl) rfl rfl (ca6x6 BK262.out (cc6x6 BK218.out)) (fun hHeld => ?_)
      generalize wc.drew = w74 at HO_6 HO_10 HO_263003 HO_263004 HO_263005 HO_276003 HO_276004 HO_276005 BK218 BK219 BK262 BK275 HB hHeld ⊢
      refine take_ (i := 0) (N := some 54) (v := ?_) (a' := ?_) #[true, false, false, false, false] rfl rfl (by kernel_rfl) (fun _ _ _ h => h) (Or.inl ⟨by rfl, ?_⟩) hHeld ?_ ?_
      rotate_left
      ·rintro w' ⟨s0, s1, s2, s3, s4, s5, s6, s7, s8, s9, s10, s11⟩
       go_simp
       with_reducible rfl
      rotate_left
      ·simp only [Act.put, List.setIfInBounds_toArray, List.set_cons_zero, List.set_cons_succ, i64_w, i32_w]
       rfl
      refine take_ (i := 1) (N := some 55) (v := ?_) (a' := ?_) #[true, true, false, false, false] rfl rfl (by kernel_rfl) (fun _ _ _ h => h) (Or.inl ⟨by rfl, ?_⟩) hHeld ?_ ?_
      rotate_left
      ·rintro w' ⟨s0, s1, s2, s3, s4, s5, s6, s7, s8, s9, s10, s11⟩
       go_simp
       with_reducible rfl
      rotate_left
      ·simp only [Act.put, List.setIfInBounds_toArray, List.set_cons_zero, List.set_cons_succ, i64_w, i32_w]
       rfl
      refine one_ (i := 2) (N := some 56) #[true, true, true, false, false] rfl rfl (by kernel_rfl) (by decide) (fun K hK => ?_)
      refine goes_ Try.func24 (by kernel_rfl) rfl #[.agg #[.int .i64 a0_0, .int .i64 a0_1, .int .i64 a0_2, .slice A0_3 l0_3.length c0_3, .slice A0_4 l0_4.length c0_4, .slice A0_5 l0_5.length c0_5]] (by rfl) rfl rfl mpx6 ?_
      with_reducible refine (laws_toModel.calls kj24 a0_0 a0_1 a0_2 _ _ l0_3 _ _ l0_4 _ _ l0_5 t281 t282 t283 t284 t287 t290 _ ?side1 ?side2 ?side3 ?side4 ?side5 ?side6 A71.out).mono ?_
      (case side1 => exact rCx6 (Kd.C_below HR0_3.out HB.out))
      (case side2 => exact HC0_3.out)
      (case side3 => exact rCx6 (Kd.C_below HR0_4.out HB.out))
      (case side4 => exact HC0_4.out)
      (case side5 => exact rCx6 (Kd.C_below HR0_5.out HB.out))
      (case side6 => exact HC0_5.out)
      rintro e w75 ⟨v285, v288, v291, rfl, ho0, ho1, ho2, hb⟩
      refine ⟨_, rfl, ?_⟩
      have n0_ := Aside0.mk (kp3x6 (rRx6 HO_6.out) hb ho0 ho1 ho2)
      have n1_ := Aside0.mk (kp3x6 (rRx6 HO_10.out) hb ho0 ho1 ho2)
      have n2_ := Aside0.mk (kp3x6 (rRx6 HO_263003.out) hb ho0 ho1 ho2)
      have n3_ := Aside0.mk (kp3x6 (rRx6 HO_263004.out) hb ho0 ho1 ho2)
      have n4_ := Aside0.mk (kp3x6 (rRx6 HO_263005.out) hb ho0 ho1 ho2)
      have n5_ := Aside0.mk (kp3x6 (rRx6 HO_276003.out) hb ho0 ho1 ho2)
      have n6_ := Aside0.mk (kp3x6 (rRx6 HO_276004.out) hb ho0 ho1 ho2)
      have n7_ := Aside0.mk (kp3x6 (rRx6 HO_276005.out) hb ho0 ho1 ho2)
      have n8_ := Aside0.mk (Kd.R_lower (nwx6 (nwx6 (nwx6 (nwx6 (nwx6 (nwx6 (nwx6 (nwx6 ho0 (rRx6 HO_6.out)) (rRx6 HO_10.out)) (rRx6 HO_263003.out)) (rRx6 HO_263004.out)) (rRx6 HO_263005.out)) (rRx6 HO_276003.out)) (rRx6 HO_276004.out)) (rRx6 HO_276005.out)) (below_size (be4x6 HB.out GE218.out GE219.out GE262.out GE275.out)))
      have n9_ := Aside0.mk (Kd.R_lower (nwx6 (nwx6 (nwx6 (nwx6 (nwx6 (nwx6 (nwx6 (nwx6 ho1 (rRx6 HO_6.out)) (rRx6 HO_10.out)) (rRx6 HO_263003.out)) (rRx6 HO_263004.out)) (rRx6 HO_263005.out)) (rRx6 HO_276003.out)) (rRx6 HO_276004.out)) (rRx6 HO_276005.out)) (below_size (be4x6 HB.out GE218.out GE219.out GE262.out GE275.out)))
      have n10_ := Aside0.mk (Kd.R_lower (nwx6 (nwx6 (nwx6 (nwx6 (nwx6 (nwx6 (nwx6 (nwx6 ho2 (rRx6 HO_6.out)) (rRx6 HO_10.out)) (rRx6 HO_263003.out)) (rRx6 HO_263004.out)) (rRx6 HO_263005.out)) (rRx6 HO_276003.out)) (rRx6 HO_276004.out)) (rRx6 HO_276005.out)) (below_size (be4x6 HB.out GE218.out GE219.out GE262.out GE275.out)))
      have n11_ := Aside0.mk (blk_below (g := gb218) (o := .cells #[.int .i64 a0_0, .int .i64 a0_1, .int .i64 a0_2, .slice A0_3 l0_3.length c0_3, .slice A0_4 l0_4.length c0_4, .slice A0_5 l0_5.length c0_5] 38 (0, 0)) (rBx6 BK218.out) hb)
      have n12_ := Aside0.mk (blk_below (g := gb219) (o := .cells #[.int .i64 a1_0, .int .i64 a1_1, .int .i64 a1_2, .slice A1_3 l1_3.length c1_3, .slice A1_4 l1_4.length c1_4, .slice A1_5 l1_5.length c1_5] 38 (0, 0)) (rBx6 BK219.out) hb)
      have n13_ := Aside0.mk (blk_below (g := gb262) (o := .cells #[.int .i64 t250, .int .i64 t251, .int .i64 t252, .slice Ao49 t253.length co49, .slice Ao50 t256.length co50, .slice Ao51 t259.length co51] 44 (0, 0)) (rBx6 BK262.out) hb)
      have n14_ := Aside0.mk (blk_below (g := gb275) (o := .cells #[.int .i64 t263, .int .i64 t264, .int .i64 t265, .slice Ao59 t266.length co59, .slice Ao60 t269.length co60, .slice Ao61 t272.length co61] 44 (0, 0)) (rBx6 BK275.out) hb)
      have n15_ := Aside0.mk (below_step (be4x6 HB.out GE218.out GE219.out GE262.out GE275.out) hb)
      clear HO_6
      clear HO_10
      clear HO_263003
      clear HO_263004
      clear HO_263005
      clear HO_276003
      clear HO_276004
      clear HO_276005
      clear BK218
      clear BK219
      clear BK262
      clear BK275
      clear HB
      have HO_6 := n0_
      have HO_10 := n1_
      have HO_263003 := n2_
      have HO_263004 := n3_
      have HO_263005 := n4_
      have HO_276003 := n5_
      have HO_276004 := n6_
      have HO_276005 := n7_
      have HO286 := n8_
      have HO289 := n9_
      have HO292 := n10_
      have BK218 := n11_
      have BK219 := n12_
      have BK262 := n13_
      have BK275 := n14_
      have HB := n15_
      clear n0_ n1_ n2_ n3_ n4_ n5_ n6_ n7_ n8_ n9_ n10_ n11_ n12_ n13_ n14_ n15_
      (try clear hb)
      (try clear hb2)
      (try clear hk)
      (try clear hi)
      (try clear ho0)
      (try clear ho1)
      (try clear ho2)
      obtain ⟨Ao76, co76, eo76⟩ := Kd.R_slice HO286.out
      (first | subst eo76 | (injection eo76 with f1_ f2_ f3_; have f4_ := f1_.symm; have f5_ := f3_.symm; clear f1_ f2_ f3_; subst f4_; subst f5_))
      obtain ⟨Ao77, co77, eo77⟩ := Kd.R_slice HO289.out
      (first | subst eo77 | (injection eo77 with f1_ f2_ f3_; have f4_ := f1_.symm; have f5_ := f3_.symm; clear f1_ f2_ f3_; subst f4_; subst f5_))
      obtain ⟨Ao78, co78, eo78⟩ := Kd.R_slice HO292.out
      (first | subst eo78 | (injection eo78 with f1_ f2_ f3_; have f4_ := f1_.symm; have f5_ := f3_.symm; clear f1_ f2_ f3_; subst f4_; subst f5_))
      refine hK.out _ _ (ca6x6 BK262.out (cc6x6 BK218.out)) (fun hHeld => ?_)
      clear hK K
      refine norm_ (a' := ?_) ?_ ?_
      rotate_left
      ·show Act.put _ (some 56) _ = _
       simp only [Act.put, List.setIfInBounds_toArray, List.set_cons_zero, List.set_cons_succ, i64_w, i32_w]
       rfl
      refine one_ (i := 3) (N := some 57) #[true, true, true, true, false] rfl rfl (by kernel_rfl) (by decide) (fun K hK => ?_)
      refine goes_ Try.func26 (by kernel_rfl) rfl #[.agg #[.int .i64 t250, .int .i64 t251, .int .i64 t252, .slice Ao49 t253.length co49, .slice Ao50 t256.length co50, .slice Ao51 t259.length co51], .agg #[.int .i64 t281, .int .i64 t282, .int .i64 t283, .slice Ao76 t284.length co76, .slice Ao77 t287.length co77, .slice Ao78 t290.length co78]] (by rfl) rfl rfl mpx6 ?_
      with_reducible refine (laws_eqModel.calls kj24 t250 t251 t252 _ _ t253 _ _ t256 _ _ t259 t281 t282 t283 _ _ t284 _ _ t287 _ _ t290 t293 _ ?side1 ?side2 ?side3 ?side4 ?side5 ?side6 ?side7 ?side8 ?side9 ?side10 ?side11 ?side12 A72.out).mono ?_
      (case side1 => exact cRx6 HO_263003.out)
      (case side2 => exact (Kd.R_reads' HO_263003.out).2.1)
      (case side3 => exact cRx6 HO_263004.out)
      (case side4 => exact (Kd.R_reads' HO_263004.out).2.1)
      (case side5 => exact cRx6 HO_263005.out)
      (case side6 => exact (Kd.R_reads' HO_263005.out).2.1)
      (case side7 => exact cRx6 HO286.out)
      (case side8 => exact (Kd.R_reads' HO286.out).2.1)
      (case side9 => exact cRx6 HO289.out)
      (case side10 => exact (Kd.R_reads' HO289.out).2.1)
      (case side11 => exact cRx6 HO292.out)
      (case side12 => exact (Kd.R_reads' HO292.out).2.1)
      rintro e w79 ⟨rfl, hb⟩
      refine ⟨_, rfl, ?_⟩
      have n0_ := Aside0.mk (Kd.R_below (rRx6 HO_6.out) hb)
      have n1_ := Aside0.mk (Kd.R_below (rRx6 HO_10.out) hb)
      have n2_ := Aside0.mk (Kd.R_below (rRx6 HO_263003.out) hb)
      have n3_ := Aside0.mk (Kd.R_below (rRx6 HO_263004.out) hb)
      have n4_ := Aside0.mk (Kd.R_below (rRx6 HO_263005.out) hb)
      have n5_ := Aside0.mk (Kd.R_below (rRx6 HO_276003.out) hb)
      have n6_ := Aside0.mk (Kd.R_below (rRx6 HO_276004.out) hb)
      have n7_ := Aside0.mk (Kd.R_below (rRx6 HO_276005.out) hb)
      have n8_ := Aside0.mk (Kd.R_below (rRx6 HO286.out) hb)
      have n9_ := Aside0.mk (Kd.R_below (rRx6 HO289.out) hb)
      have n10_ := Aside0.mk (Kd.R_below (rRx6 HO292.out) hb)
      have n11_ := Aside0.mk (blk_below (g := gb218) (o := .cells #[.int .i64 a0_0, .int .i64 a0_1, .int .i64 a0_2, .slice A0_3 l0_3.length c0_3, .slice A0_4 l0_4.length c0_4, .slice A0_5 l0_5.length c0_5] 38 (0, 0)) (rBx6 BK218.out) hb)
      have n12_ := Aside0.mk (blk_below (g := gb219) (o := .cells #[.int .i64 a1_0, .int .i64 a1_1, .int .i64 a1_2, .slice A1_3 l1_3.length c1_3, .slice A1_4 l1_4.length c1_4, .slice A1_5 l1_5.length c1_5] 38 (0, 0)) (rBx6 BK219.out) hb)
      have n13_ := Aside0.mk (blk_below (g := gb262) (o := .cells #[.int .i64 t250, .int .i64 t251, .int .i64 t252, .slice Ao49 t253.length co49, .slice Ao50 t256.length co50, .slice Ao51 t259.length co51] 44 (0, 0)) (rBx6 BK262.out) hb)
      have n14_ := Aside0.mk (blk_below (g := gb275) (o := .cells #[.int .i64 t263, .int .i64 t264, .int .i64 t265, .slice Ao59 t266.length co59, .slice Ao60 t269.length co60, .slice Ao61 t272.length co61] 44 (0, 0)) (rBx6 BK275.out) hb)
      have n15_ := Aside0.mk (below_step (be4x6 HB.out GE218.out GE219.out GE262.out GE275.out) hb)
      clear HO_6
      clear HO_10
      clear HO_263003
      clear HO_263004
      clear HO_263005
      clear HO_276003
      clear HO_276004
      clear HO_276005
      clear HO286
      clear HO289
      clear HO292
      clear BK218
      clear BK219
      clear BK262
      clear BK275
      clear HB
      have HO_6 := n0_
      have HO_10 := n1_
      have HO_263003 := n2_
      have HO_263004 := n3_
      have HO_263005 := n4_
      have HO_276003 := n5_
      have HO_276004 := n6_
      have HO_276005 := n7_
      have HO286 := n8_
      have HO289 := n9_
      have HO292 := n10_
      have BK218 := n11_
      have BK219 := n12_
      have BK262 := n13_
      have BK275 := n14_
      have HB := n15_
      clear n0_ n1_ n2_ n3_ n4_ n5_ n6_ n7_ n8_ n9_ n10_ n11_ n12_ n13_ n14_ n15_
      (try clear hb)
      (try clear hb2)
      (try clear hk)
      (try clear hi)
      refine hK.out _ _ (ca6x6 BK262.out (cc6x6 BK218.out)) (fun hHeld => ?_)
      clear hK K
      refine norm_ (a' := ?_) ?_ ?_
      rotate_left
      ·show Act.put _ (some 57) _ = _
       simp only [Act.put, List.setIfInBounds_toArray, List.set_cons_zero, List.set_cons_succ, i64_w, i32_w]
       rfl
      refine pure_ (i := 4) (N := some 58) (v := ?_) (a' := ?_) #[true, true, true, true, true] rfl rfl (by kernel_rfl) (fun _ _ _ h => h) (Or.inl ⟨by rfl, ?_⟩) ?_ ?_
      rotate_left
      ·intro w'
       go_simp
       with_reducible rfl
      rotate_left
      ·simp only [Act.put, List.setIfInBounds_toArray, List.set_cons_zero, List.set_cons_succ, i64_w, i32_w]
       rfl
      refine done_ (by kernel_rfl) ?_
      go_upto_if 58 with (fail)
      go_cut [] (fun wc => ∃ (kq : Nat), Aside0 (laws_FnExactChangedBlocks.j1 kq t246 t249 t276 t279 a0_0 a0_1 a0_2 l0_3 l0_4 l0_5 a1_0 a1_1 a1_2 l1_3 l1_4 l1_5 t250 t251 t252 t253 t256 t259 t263 t264 t265 t266 t269 t272 = some r) ∧ Aside0 (kq ≤ kj24) ∧ Aside0 (Kd.R (Kd.int .i64) 3 wc w.heap.size (fun k_ => some k_ ≠ (v277 : Value).ownBlock ∧ some k_ ≠ ((.slice Ao49 t253.length co49) : Value).ownBlock ∧ some k_ ≠ ((.slice Ao50 t256.length co50) : Value).ownBlock ∧ some k_ ≠ ((.slice Ao51 t259.length co51) : Value).ownBlock ∧ some k_ ≠ ((.slice Ao59 t266.length co59) : Value).ownBlock ∧ some k_ ≠ ((.slice Ao60 t269.length co60) : Value).ownBlock ∧ some k_ ≠ ((.slice Ao61 t272.length co61) : Value).ownBlock) v247 t246) ∧ Aside0 (Kd.R (Kd.int .i64) 3 wc w.heap.size (fun k_ => some k_ ≠ (v247 : Value).ownBlock ∧ some k_ ≠ ((.slice Ao49 t253.length co49) : Value).ownBlock ∧ some k_ ≠ ((.slice Ao50 t256.length co50) : Value).ownBlock ∧ some k_ ≠ ((.slice Ao51 t259.length co51) : Value).ownBlock ∧ some k_ ≠ ((.slice Ao59 t266.length co59) : Value).ownBlock ∧ some k_ ≠ ((.slice Ao60 t269.length co60) : Value).ownBlock ∧ some k_ ≠ ((.slice Ao61 t272.length co61) : Value).ownBlock) v277 t276) ∧ Aside0 (Kd.R (Kd.int .i64) 3 wc w.heap.size (fun k_ => some k_ ≠ (v247 : Value).ownBlock ∧ some k_ ≠ (v277 : Value).ownBlock ∧ some k_ ≠ ((.slice Ao50 t256.length co50) : Value).ownBlock ∧ some k_ ≠ ((.slice Ao51 t259.length co51) : Value).ownBlock ∧ some k_ ≠ ((.slice Ao59 t266.length co59) : Value).ownBlock ∧ some k_ ≠ ((.slice Ao60 t269.length co60) : Value).ownBlock ∧ some k_ ≠ ((.slice Ao61 t272.length co61) : Value).ownBlock) (.slice Ao49 t253.length co49) t253) ∧ Aside0 (Kd.R (Kd.int .i64) 3 wc w.heap.size (fun k_ => some k_ ≠ (v247 : Value).ownBlock ∧ some k_ ≠ (v277 : Value).ownBlock ∧ some k_ ≠ ((.slice Ao49 t253.length co49) : Value).ownBlock ∧ some k_ ≠ ((.slice Ao51 t259.length co51) : Value).ownBlock ∧ some k_ ≠ ((.slice Ao59 t266.length co59) : Value).ownBlock ∧ some k_ ≠ ((.slice Ao60 t269.length co60) : Value).ownBlock ∧ some k_ ≠ ((.slice Ao61 t272.length co61) : Value).ownBlock) (.slice Ao50 t256.length co50) t256) ∧ Aside0 (Kd.R (Kd.int .i64) 3 wc w.heap.size (fun k_ => some k_ ≠ (v247 : Value).ownBlock ∧ some k_ ≠ (v277 : Value).ownBlock ∧ some k_ ≠ ((.slice Ao49 t253.length co49) : Value).ownBlock ∧ some k_ ≠ ((.slice Ao50 t256.length co50) : Value).ownBlock ∧ some k_ ≠ ((.slice Ao59 t266.length co59) : Value).ownBlock ∧ some k_ ≠ ((.slice Ao60 t269.length co60) : Value).ownBlock ∧ some k_ ≠ ((.slice Ao61 t272.length co61) : Value).ownBlock) (.slice Ao51 t259.length co51) t259) ∧ Aside0 (Kd.R (Kd.int .i64) 3 wc w.heap.size (fun k_ => some k_ ≠ (v247 : Value).ownBlock ∧ some k_ ≠ (v277 : Value).ownBlock ∧ some k_ ≠ ((.slice Ao49 t253.length co49) : Value).ownBlock ∧ some k_ ≠ ((.slice Ao50 t256.length co50) : Value).ownBlock ∧ some k_ ≠ ((.slice Ao51 t259.length co51) : Value).ownBlock ∧ some k_ ≠ ((.slice Ao60 t269.length co60) : Value).ownBlock ∧ some k_ ≠ ((.slice Ao61 t272.length co61) : Value).ownBlock) (.slice Ao59 t266.length co59) t266) ∧ Aside0 (Kd.R (Kd.int .i64) 3 wc w.heap.size (fun k_ => some k_ ≠ (v247 : Value).ownBlock ∧ some k_ ≠ (v277 : Value).ownBlock ∧ some k_ ≠ ((.slice Ao49 t253.length co49) : Value).ownBlock ∧ some k_ ≠ ((.slice Ao50 t256.length co50) : Value).ownBlock ∧ some k_ ≠ ((.slice Ao51 t259.length co51) : Value).ownBlock ∧ some k_ ≠ ((.slice Ao59 t266.length co59) : Value).ownBlock ∧ some k_ ≠ ((.slice Ao61 t272.length co61) : Value).ownBlock) (.slice Ao60 t269.length co60) t269) ∧ Aside0 (Kd.R (Kd.int .i64) 3 wc w.heap.size (fun k_ => some k_ ≠ (v247 : Value).ownBlock ∧ some k_ ≠ (v277 : Value).ownBlock ∧ some k_ ≠ ((.slice Ao49 t253.length co49) : Value).ownBlock ∧ some k_ ≠ ((.slice Ao50 t256.length co50) : Value).ownBlock ∧ some k_ ≠ ((.slice Ao51 t259.length co51) : Value).ownBlock ∧ some k_ ≠ ((.slice Ao59 t266.length co59) : Value).ownBlock ∧ some k_ ≠ ((.slice Ao60 t269.length co60) : Value).ownBlock) (.slice Ao61 t272.length co61) t272) ∧ Aside0 (wc.heap[gb218]? = some (.cells #[.int .i64 a0_0, .int .i64 a0_1, .int .i64 a0_2, (.slice A0_3 l0_3.length c0_3), (.slice A0_4 l0_4.length c0_4), (.slice A0_5 l0_5.length c0_5)] 38 (0, 0))) ∧ Aside0 (wc.heap[gb219]? = some (.cells #[.int .i64 a1_0, .int .i64 a1_1, .int .i64 a1_2, (.slice A1_3 l1_3.length c1_3), (.slice A1_4 l1_4.length c1_4), (.slice A1_5 l1_5.length c1_5)] 38 (0, 0))) ∧ Aside0 (wc.heap[gb262]? = some (.cells #[.int .i64 t250, .int .i64 t251, .int .i64 t252, (.slice Ao49 t253.length co49), (.slice Ao50 t256.length co50), (.slice Ao51 t259.length co51)] 44 (0, 0))) ∧ Aside0 (wc.heap[gb275]? = some (.cells #[.int .i64 t263, .int .i64 t264, .int .i64 t265, (.slice Ao59 t266.length co59), (.slice Ao60 t269.length co60), (.slice Ao61 t272.length co61)] 44 (0, 0))) ∧ Aside0 (Below w.heap.size w wc))
      case first =>
       have H := HC73.out
       clear HC73
       by_cases c80 : t293 = true
       ·subst c80
        have H1 : (laws_FnExactChangedBlocks.j1 kj24 t246 t249 t276 t279 a0_0 a0_1 a0_2 l0_3 l0_4 l0_5 a1_0 a1_1 a1_2 l1_3 l1_4 l1_5 t250 t251 t252 t253 t256 t259 t263 t264 t265 t266 t269 t272) = some r := by rw [if_pos rfl] at H; exact H
        clear H
        have H := H1
        clear H1
        have H' := Aside0.mk H
        clear H
        go_wp2
        go_meet
        case rel => exact ⟨_, H', ⟨by have := HJ24.out; first | omega | exact Nat.le_refl _⟩, ⟨by exact rRx6 (mox6 HO_6.out)⟩, ⟨by exact rRx6 (mox6 HO_10.out)⟩, ⟨by exact rRx6 (mox6 HO_263003.out)⟩, ⟨by exact rRx6 (mox6 HO_263004.out)⟩, ⟨by exact rRx6 (mox6 HO_263005.out)⟩, ⟨by exact rRx6 (mox6 HO_276003.out)⟩, ⟨by exact rRx6 (mox6 HO_276004.out)⟩, ⟨by exact rRx6 (mox6 HO_276005.out)⟩, ⟨rBx6 BK218.out⟩, ⟨rBx6 BK219.out⟩, ⟨rBx6 BK262.out⟩, ⟨rBx6 BK275.out⟩, ⟨be4x6 HB.out GE218.out GE219.out GE262.out GE275.out⟩⟩
       ·replace c80 := Bool.eq_false_iff.mpr c80
        subst c80
        have H1 : (some false) = some r := by rw [if_neg (show ¬ (false = true) by decide)] at H; exact H
        clear H
        have H := H1
        clear H1
        obtain rfl := Option.some.inj H
        go_wp2
        go_ret
        exact ⟨by first | rfl | (simp [errW_none, errW_some] <;> rfl) | (simp [*, errW_none, errW_some] <;> rfl), be4x6 HB.out GE218.out GE219.out GE262.out GE275.out⟩
      case rest =>
       clear HC73
       try clear c70; try clear c80
       obtain ⟨kq, HA, HJ72, HO_6, HO_10, HO_263003, HO_263004, HO_263005, HO_276003, HO_276004, HO_276005, BK218, BK219, BK262, BK275, HB⟩ := hcut
       cases kq with
       | zero => exact absurd HA.out (by simp [laws_FnExactChangedBlocks.j1])
       | succ kj72 =>
        have H := HA.out
        clear HA
        simp only [laws_FnExactChangedBlocks.j1] at H
        replace H := Option.bind_eq_some_iff.mp H
        obtain ⟨⟨t294, t295, t296, t297, t300, t303⟩, A810, H⟩ := H
        (try dsimp only at H)
        have A81 := Aside0.mk A810
        clear A810
        replace H := Option.bind_eq_some_iff.mp H
        obtain ⟨t306, A820, H⟩ := H
        have A82 := Aside0.mk A820
        clear A820
        have HC83 := Aside0.mk H
        clear H
        try go_wp2
        have n0_ := Aside0.mk (Kd.R_drew HO_6.out)
        have n1_ := Aside0.mk (Kd.R_drew HO_10.out)
        have n2_ := Aside0.mk (Kd.R_drew HO_263003.out)
        have n3_ := Aside0.mk (Kd.R_drew HO_263004.out)
        have n4_ := Aside0.mk (Kd.R_drew HO_263005.out)
        have n5_ := Aside0.mk (Kd.R_drew HO_276003.out)
        have n6_ := Aside0.mk (Kd.R_drew HO_276004.out)
        have n7_ := Aside0.mk (Kd.R_drew HO_276005.out)
        have n8_ := Aside0.mk (blk_drew BK218.out)
        have n9_ := Aside0.mk (blk_drew BK219.out)
        have n10_ := Aside0.mk (blk_drew BK262.out)
        have n11_ := Aside0.mk (blk_drew BK275.out)
        have n12_ := Aside0.mk (below_drew1 HB.out)
        clear HO_6
        clear HO_10
        clear HO_263003
        clear HO_263004
        clear HO_263005
        clear HO_276003
        clear HO_276004
        clear HO_276005
        clear BK218
        clear BK219
        clear BK262
        clear BK275
        clear HB
        have HO_6 := n0_
        have HO_10 := n1_
        have HO_263003 := n2_
        have HO_263004 := n3_
        have HO_263005 := n4_
        have HO_276003 := n5_
        have HO_276004 := n6_
        have HO_276005 := n7_
        have BK218 := n8_
        have BK219 := n9_
        have BK262 := n10_
        have BK275 := n11_
        have HB := n12_
        clear n0_ n1_ n2_ n3_ n4_ n5_ n6_ n7_ n8_ n9_ n10_ n11_ n12_
        refine start_ (n := 5) (S := fun w' => w'.cell? ⟨gb275, 0, none⟩ = some (.int .i64 t263) ∧ w'.cell? ⟨gb275, 1, none⟩ = some (.int .i64 t264) ∧ w'.cell? ⟨gb275, 2, none⟩ = some (.int .i64 t265) ∧ w'.cell? ⟨gb275, 3, none⟩ = some (.slice Ao59 t266.length co59) ∧ w'.cell? ⟨gb275, 4, none⟩ = some (.slice Ao60 t269.length co60) ∧ w'.cell? ⟨gb275, 5, none⟩ = some (.slice Ao61 t272.length co61) ∧ w'.cell? ⟨gb219, 0, none⟩ = some (.int .i64 a1_0) ∧ w'.cell? ⟨gb219, 1, none⟩ = some (.int .i64 a1_1) ∧ w'.cell? ⟨gb219, 2, none⟩ = some (.int .i64 a1_2) ∧ w'.cell? ⟨gb219, 3, none⟩ = some (.slice A1_3 l1_3.length c1_3) ∧ w'.cell? ⟨gb219, 4, none⟩ = some (.slice A1_4 l1_4.length c1_4) ∧ w'.cell? ⟨gb219, 5, none⟩ = some (.slice A1_5 l1_5.length c1_5)) (ds := []) #[false, false, false, false, false] (by kernel_rfl) rfl rfl (ca6x6 BK275.out (cc6x6 BK219.out)) (fun hHeld => ?_)
        generalize wc.drew = w84 at HO_6 HO_10 HO_263003 HO_263004 HO_263005 HO_276003 HO_276004 HO_276005 BK218 BK219 BK262 BK275 HB hHeld ⊢
        refine take_ (i := 0) (N := some 59) (v := ?_) (a' := ?_) #[true, false, false, false, false] rfl rfl (by kernel_rfl) (fun _ _ _ h => h) (Or.inl ⟨by rfl, ?_⟩) hHeld ?_ ?_
        rotate_left
        ·rintro w' ⟨s0, s1, s2, s3, s4, s5, s6, s7, s8, s9, s10, s11⟩
         go_simp
         with_reducible rfl
        rotate_left
        ·simp only [Act.put, List.setIfInBounds_toArray, List.set_cons_zero, List.set_cons_succ, i64_w, i32_w]
         rfl
        refine take_ (i := 1) (N := some 60) (v := ?_) (a' := ?_) #[true, true, false, false, false] rfl rfl (by kernel_rfl) (fun _ _ _ h => h) (Or.inl ⟨by rfl, ?_⟩) hHeld ?_ ?_
        rotate_left
        ·rintro w' ⟨s0, s1, s2, s3, s4, s5, s6, s7, s8, s9, s10, s11⟩
         go_simp
         with_reducible rfl
        rotate_left
        ·simp only [Act.put, List.setIfInBounds_toArray, List.set_cons_zero, List.set_cons_succ, i64_w, i32_w]
         rfl
        refine one_ (i := 2) (N := some 61) #[true, true, true, false, false] rfl rfl (by kernel_rfl) (by decide) (fun K hK => ?_)
        refine goes_ Try.func24 (by kernel_rfl) rfl #[.agg #[.int .i64 a1_0, .int .i64 a1_1, .int .i64 a1_2, .slice A1_3 l1_3.length c1_3, .slice A1_4 l1_4.length c1_4, .slice A1_5 l1_5.length c1_5]] (by rfl) rfl rfl mpx6 ?_
        with_reducible refine (laws_toModel.calls kj72 a1_0 a1_1 a1_2 _ _ l1_3 _ _ l1_4 _ _ l1_5 t294 t295 t296 t297 t300 t303 _ ?side1 ?side2 ?side3 ?side4 ?side5 ?side6 A81.out).mono ?_
        (case side1 => exact rCx6 (Kd.C_below HR1_3.out HB.out))
        (case side2 => exact HC1_3.out)
        (case side3 => exact rCx6 (Kd.C_below HR1_4.out HB.out))
        (case side4 => exact HC1_4.out)
        (case side5 => exact rCx6 (Kd.C_below HR1_5.out HB.out))
        (case side6 => exact HC1_5.out)
        rintro e w85 ⟨v298, v301, v304, rfl, ho0, ho1, ho2, hb⟩
        refine ⟨_, rfl, ?_⟩
        have n0_ := Aside0.mk (kp3x6 (rRx6 HO_6.out) hb ho0 ho1 ho2)
        have n1_ := Aside0.mk (kp3x6 (rRx6 HO_10.out) hb ho0 ho1 ho2)
        have n2_ := Aside0.mk (kp3x6 (rRx6 HO_263003.out) hb ho0 ho1 ho2)
        have n3_ := Aside0.mk (kp3x6 (rRx6 HO_263004.out) hb ho0 ho1 ho2)
        have n4_ := Aside0.mk (kp3x6 (rRx6 HO_263005.out) hb ho0 ho1 ho2)
        have n5_ := Aside0.mk (kp3x6 (rRx6 HO_276003.out) hb ho0 ho1 ho2)
        have n6_ := Aside0.mk (kp3x6 (rRx6 HO_276004.out) hb ho0 ho1 ho2)
        have n7_ := Aside0.mk (kp3x6 (rRx6 HO_276005.out) hb ho0 ho1 ho2)
        have n8_ := Aside0.mk (Kd.R_lower (nwx6 (nwx6 (nwx6 (nwx6 (nwx6 (nwx6 (nwx6 (nwx6 ho0 (rRx6 HO_6.out)) (rRx6 HO_10.out)) (rRx6 HO_263003.out)) (rRx6 HO_263004.out)) (rRx6 HO_263005.out)) (rRx6 HO_276003.out)) (rRx6 HO_276004.out)) (rRx6 HO_276005.out)) (below_size (be4x6 HB.out GE218.out GE219.out GE262.out GE275.out)))
        have n9_ := Aside0.mk (Kd.R_lower (nwx6 (nwx6 (nwx6 (nwx6 (nwx6 (nwx6 (nwx6 (nwx6 ho1 (rRx6 HO_6.out)) (rRx6 HO_10.out)) (rRx6 HO_263003.out)) (rRx6 HO_263004.out)) (rRx6 HO_263005.out)) (rRx6 HO_276003.out)) (rRx6 HO_276004.out)) (rRx6 HO_276005.out)) (below_size (be4x6 HB.out GE218.out GE219.out GE262.out GE275.out)))
        have n10_ := Aside0.mk (Kd.R_lower (nwx6 (nwx6 (nwx6 (nwx6 (nwx6 (nwx6 (nwx6 (nwx6 ho2 (rRx6 HO_6.out)) (rRx6 HO_10.out)) (rRx6 HO_263003.out)) (rRx6 HO_263004.out)) (rRx6 HO_263005.out)) (rRx6 HO_276003.out)) (rRx6 HO_276004.out)) (rRx6 HO_276005.out)) (below_size (be4x6 HB.out GE218.out GE219.out GE262.out GE275.out)))
        have n11_ := Aside0.mk (blk_below (g := gb218) (o := .cells #[.int .i64 a0_0, .int .i64 a0_1, .int .i64 a0_2, .slice A0_3 l0_3.length c0_3, .slice A0_4 l0_4.length c0_4, .slice A0_5 l0_5.length c0_5] 38 (0, 0)) (rBx6 BK218.out) hb)
        have n12_ := Aside0.mk (blk_below (g := gb219) (o := .cells #[.int .i64 a1_0, .int .i64 a1_1, .int .i64 a1_2, .slice A1_3 l1_3.length c1_3, .slice A1_4 l1_4.length c1_4, .slice A1_5 l1_5.length c1_5] 38 (0, 0)) (rBx6 BK219.out) hb)
        have n13_ := Aside0.mk (blk_below (g := gb262) (o := .cells #[.int .i64 t250, .int .i64 t251, .int .i64 t252, .slice Ao49 t253.length co49, .slice Ao50 t256.length co50, .slice Ao51 t259.length co51] 44 (0, 0)) (rBx6 BK262.out) hb)
        have n14_ := Aside0.mk (blk_below (g := gb275) (o := .cells #[.int .i64 t263, .int .i64 t264, .int .i64 t265, .slice Ao59 t266.length co59, .slice Ao60 t269.length co60, .slice Ao61 t272.length co61] 44 (0, 0)) (rBx6 BK275.out) hb)
        have n15_ := Aside0.mk (below_step (be4x6 HB.out GE218.out GE219.out GE262.out GE275.out) hb)
        clear HO_6
        clear HO_10
        clear HO_263003
        clear HO_263004
        clear HO_263005
        clear HO_276003
        clear HO_276004
        clear HO_276005
        clear BK218
        clear BK219
        clear BK262
        clear BK275
        clear HB
        have HO_6 := n0_
        have HO_10 := n1_
        have HO_263003 := n2_
        have HO_263004 := n3_
        have HO_263005 := n4_
        have HO_276003 := n5_
        have HO_276004 := n6_
        have HO_276005 := n7_
        have HO299 := n8_
        have HO302 := n9_
        have HO305 := n10_
        have BK218 := n11_
        have BK219 := n12_
        have BK262 := n13_
        have BK275 := n14_
        have HB := n15_
        clear n0_ n1_ n2_ n3_ n4_ n5_ n6_ n7_ n8_ n9_ n10_ n11_ n12_ n13_ n14_ n15_
        (try clear hb)
        (try clear hb2)
        (try clear hk)
        (try clear hi)
        (try clear ho0)
        (try clear ho1)
        (try clear ho2)
        obtain ⟨Ao86, co86, eo86⟩ := Kd.R_slice HO299.out
        (first | subst eo86 | (injection eo86 with f1_ f2_ f3_; have f4_ := f1_.symm; have f5_ := f3_.symm; clear f1_ f2_ f3_; subst f4_; subst f5_))
        obtain ⟨Ao87, co87, eo87⟩ := Kd.R_slice HO302.out
        (first | subst eo87 | (injection eo87 with f1_ f2_ f3_; have f4_ := f1_.symm; have f5_ := f3_.symm; clear f1_ f2_ f3_; subst f4_; subst f5_))
        obtain ⟨Ao88, co88, eo88⟩ := Kd.R_slice HO305.out
        (first | subst eo88 | (injection eo88 with f1_ f2_ f3_; have f4_ := f1_.symm; have f5_ := f3_.symm; clear f1_ f2_ f3_; subst f4_; subst f5_))
        refine hK.out _ _ (ca6x6 BK275.out (cc6x6 BK219.out)) (fun hHeld => ?_)
        clear hK K
        refine norm_ (a' := ?_) ?_ ?_
        rotate_left
        ·show Act.put _ (some 61) _ = _
         simp only [Act.put, List.setIfInBounds_toArray, List.set_cons_zero, List.set_cons_succ, i64_w, i32_w]
         rfl
        refine one_ (i := 3) (N := some 62) #[true, true, true, true, false] rfl rfl (by kernel_rfl) (by decide) (fun K hK => ?_)
        refine goes_ Try.func26 (by kernel_rfl) rfl #[.agg #[.int .i64 t263, .int .i64 t264, .int .i64 t265, .slice Ao59 t266.length co59, .slice Ao60 t269.length co60, .slice Ao61 t272.length co61], .agg #[.int .i64 t294, .int .i64 t295, .int .i64 t296, .slice Ao86 t297.length co86, .slice Ao87 t300.length co87, .slice Ao88 t303.length co88]] (by rfl) rfl rfl mpx6 ?_
        with_reducible refine (laws_eqModel.calls kj72 t263 t264 t265 _ _ t266 _ _ t269 _ _ t272 t294 t295 t296 _ _ t297 _ _ t300 _ _ t303 t306 _ ?side1 ?side2 ?side3 ?side4 ?side5 ?side6 ?side7 ?side8 ?side9 ?side10 ?side11 ?side12 A82.out).mono ?_
        (case side1 => exact cRx6 HO_276003.out)
        (case side2 => exact (Kd.R_reads' HO_276003.out).2.1)
        (case side3 => exact cRx6 HO_276004.out)
        (case side4 => exact (Kd.R_reads' HO_276004.out).2.1)
        (case side5 => exact cRx6 HO_276005.out)
        (case side6 => exact (Kd.R_reads' HO_276005.out).2.1)
        (case side7 => exact cRx6 HO299.out)
        (case side8 => exact (Kd.R_reads' HO299.out).2.1)
        (case side9 => exact cRx6 HO302.out)
        (case side10 => exact (Kd.R_reads' HO302.out).2.1)
        (case side11 => exact cRx6 HO305.out)
        (case side12 => exact (Kd.R_reads' HO305.out).2.1)
        rintro e w89 ⟨rfl, hb⟩
        refine ⟨_, rfl, ?_⟩
        have n0_ := Aside0.mk (Kd.R_below (rRx6 HO_6.out) hb)
        have n1_ := Aside0.mk (Kd.R_below (rRx6 HO_10.out) hb)
        have n2_ := Aside0.mk (Kd.R_below (rRx6 HO_263003.out) hb)
        have n3_ := Aside0.mk (Kd.R_below (rRx6 HO_263004.out) hb)
        have n4_ := Aside0.mk (Kd.R_below (rRx6 HO_263005.out) hb)
        have n5_ := Aside0.mk (Kd.R_below (rRx6 HO_276003.out) hb)
        have n6_ := Aside0.mk (Kd.R_below (rRx6 HO_276004.out) hb)
        have n7_ := Aside0.mk (Kd.R_below (rRx6 HO_276005.out) hb)
        have n8_ := Aside0.mk (Kd.R_below (rRx6 HO299.out) hb)
        have n9_ := Aside0.mk (Kd.R_below (rRx6 HO302.out) hb)
        have n10_ := Aside0.mk (Kd.R_below (rRx6 HO305.out) hb)
        have n11_ := Aside0.mk (blk_below (g := gb218) (o := .cells #[.int .i64 a0_0, .int .i64 a0_1, .int .i64 a0_2, .slice A0_3 l0_3.length c0_3, .slice A0_4 l0_4.length c0_4, .slice A0_5 l0_5.length c0_5] 38 (0, 0)) (rBx6 BK218.out) hb)
        have n12_ := Aside0.mk (blk_below (g := gb219) (o := .cells #[.int .i64 a1_0, .int .i64 a1_1, .int .i64 a1_2, .slice A1_3 l1_3.length c1_3, .slice A1_4 l1_4.length c1_4, .slice A1_5 l1_5.length c1_5] 38 (0, 0)) (rBx6 BK219.out) hb)
        have n13_ := Aside0.mk (blk_below (g := gb262) (o := .cells #[.int .i64 t250, .int .i64 t251, .int .i64 t252, .slice Ao49 t253.length co49, .slice Ao50 t256.length co50, .slice Ao51 t259.length co51] 44 (0, 0)) (rBx6 BK262.out) hb)
        have n14_ := Aside0.mk (blk_below (g := gb275) (o := .cells #[.int .i64 t263, .int .i64 t264, .int .i64 t265, .slice Ao59 t266.length co59, .slice Ao60 t269.length co60, .slice Ao61 t272.length co61] 44 (0, 0)) (rBx6 BK275.out) hb)
        have n15_ := Aside0.mk (below_step (be4x6 HB.out GE218.out GE219.out GE262.out GE275.out) hb)
        clear HO_6
        clear HO_10
        clear HO_263003
        clear HO_263004
        clear HO_263005
        clear HO_276003
        clear HO_276004
        clear HO_276005
        clear HO299
        clear HO302
        clear HO305
        clear BK218
        clear BK219
        clear BK262
        clear BK275
        clear HB
        have HO_6 := n0_
        have HO_10 := n1_
        have HO_263003 := n2_
        have HO_263004 := n3_
        have HO_263005 := n4_
        have HO_276003 := n5_
        have HO_276004 := n6_
        have HO_276005 := n7_
        have HO299 := n8_
        have HO302 := n9_
        have HO305 := n10_
        have BK218 := n11_
        have BK219 := n12_
        have BK262 := n13_
        have BK275 := n14_
        have HB := n15_
        clear n0_ n1_ n2_ n3_ n4_ n5_ n6_ n7_ n8_ n9_ n10_ n11_ n12_ n13_ n14_ n15_
        (try clear hb)
        (try clear hb2)
        (try clear hk)
        (try clear hi)
        refine hK.out _ _ (ca6x6 BK275.out (cc6x6 BK219.out)) (fun hHeld => ?_)
        clear hK K
        refine norm_ (a' := ?_) ?_ ?_
        rotate_left
        ·show Act.put _ (some 62) _ = _
         simp only [Act.put, List.setIfInBounds_toArray, List.set_cons_zero, List.set_cons_succ, i64_w, i32_w]
         rfl
        refine pure_ (i := 4) (N := some 63) (v := ?_) (a' := ?_) #[true, true, true, true, true] rfl rfl (by kernel_rfl) (fun _ _ _ h => h) (Or.inl ⟨by rfl, ?_⟩) ?_ ?_
        rotate_left
        ·intro w'
         go_simp
         with_reducible rfl
        rotate_left
        ·simp only [Act.put, List.setIfInBounds_toArray, List.set_cons_zero, List.set_cons_succ, i64_w, i32_w]
         rfl
        refine done_ (by kernel_rfl) ?_
        go_upto_if 63 with (fail)
        go_cut [] (fun wc => ∃ (kq : Nat), Aside0 (laws_FnExactChangedBlocks.j2 kq t246 t249 t276 t279 a0_0 a0_1 a0_2 l0_3 l0_4 l0_5 a1_0 a1_1 a1_2 l1_3 l1_4 l1_5 t250 t251 t252 t253 t256 t259 t263 t264 t265 t266 t269 t272 = some r) ∧ Aside0 (kq ≤ kj72) ∧ Aside0 (Kd.R (Kd.int .i64) 3 wc w.heap.size (fun k_ => some k_ ≠ (v277 : Value).ownBlock ∧ some k_ ≠ ((.slice Ao49 t253.length co49) : Value).ownBlock ∧ some k_ ≠ ((.slice Ao50 t256.length co50) : Value).ownBlock ∧ some k_ ≠ ((.slice Ao51 t259.length co51) : Value).ownBlock ∧ some k_ ≠ ((.slice Ao59 t266.length co59) : Value).ownBlock ∧ some k_ ≠ ((.slice Ao60 t269.length co60) : Value).ownBlock ∧ some k_ ≠ ((.slice Ao61 t272.length co61) : Value).ownBlock) v247 t246) ∧ Aside0 (Kd.R (Kd.int .i64) 3 wc w.heap.size (fun k_ => some k_ ≠ (v247 : Value).ownBlock ∧ some k_ ≠ ((.slice Ao49 t253.length co49) : Value).ownBlock ∧ some k_ ≠ ((.slice Ao50 t256.length co50) : Value).ownBlock ∧ some k_ ≠ ((.slice Ao51 t259.length co51) : Value).ownBlock ∧ some k_ ≠ ((.slice Ao59 t266.length co59) : Value).ownBlock ∧ some k_ ≠ ((.slice Ao60 t269.length co60) : Value).ownBlock ∧ some k_ ≠ ((.slice Ao61 t272.length co61) : Value).ownBlock) v277 t276) ∧ Aside0 (Kd.R (Kd.int .i64) 3 wc w.heap.size (fun k_ => some k_ ≠ (v247 : Value).ownBlock ∧ some k_ ≠ (v277 : Value).ownBlock ∧ some k_ ≠ ((.slice Ao50 t256.length co50) : Value).ownBlock ∧ some k_ ≠ ((.slice Ao51 t259.length co51) : Value).ownBlock ∧ some k_ ≠ ((.slice Ao59 t266.length co59) : Value).ownBlock ∧ some k_ ≠ ((.slice Ao60 t269.length co60) : Value).ownBlock ∧ some k_ ≠ ((.slice Ao61 t272.length co61) : Value).ownBlock) (.slice Ao49 t253.length co49) t253) ∧ Aside0 (Kd.R (Kd.int .i64) 3 wc w.heap.size (fun k_ => some k_ ≠ (v247 : Value).ownBlock ∧ some k_ ≠ (v277 : Value).ownBlock ∧ some k_ ≠ ((.slice Ao49 t253.length co49) : Value).ownBlock ∧ some k_ ≠ ((.slice Ao51 t259.length co51) : Value).ownBlock ∧ some k_ ≠ ((.slice Ao59 t266.length co59) : Value).ownBlock ∧ some k_ ≠ ((.slice Ao60 t269.length co60) : Value).ownBlock ∧ some k_ ≠ ((.slice Ao61 t272.length co61) : Value).ownBlock) (.slice Ao50 t256.length co50) t256) ∧ Aside0 (Kd.R (Kd.int .i64) 3 wc w.heap.size (fun k_ => some k_ ≠ (v247 : Value).ownBlock ∧ some k_ ≠ (v277 : Value).ownBlock ∧ some k_ ≠ ((.slice Ao49 t253.length co49) : Value).ownBlock ∧ some k_ ≠ ((.slice Ao50 t256.length co50) : Value).ownBlock ∧ some k_ ≠ ((.slice Ao59 t266.length co59) : Value).ownBlock ∧ some k_ ≠ ((.slice Ao60 t269.length co60) : Value).ownBlock ∧ some k_ ≠ ((.slice Ao61 t272.length co61) : Value).ownBlock) (.slice Ao51 t259.length co51) t259) ∧ Aside0 (Kd.R (Kd.int .i64) 3 wc w.heap.size (fun k_ => some k_ ≠ (v247 : Value).ownBlock ∧ some k_ ≠ (v277 : Value).ownBlock ∧ some k_ ≠ ((.slice Ao49 t253.length co49) : Value).ownBlock ∧ some k_ ≠ ((.slice Ao50 t256.length co50) : Value).ownBlock ∧ some k_ ≠ ((.slice Ao51 t259.length co51) : Value).ownBlock ∧ some k_ ≠ ((.slice Ao60 t269.length co60) : Value).ownBlock ∧ some k_ ≠ ((.slice Ao61 t272.length co61) : Value).ownBlock) (.slice Ao59 t266.length co59) t266) ∧ Aside0 (Kd.R (Kd.int .i64) 3 wc w.heap.size (fun k_ => some k_ ≠ (v247 : Value).ownBlock ∧ some k_ ≠ (v277 : Value).ownBlock ∧ some k_ ≠ ((.slice Ao49 t253.length co49) : Value).ownBlock ∧ some k_ ≠ ((.slice Ao50 t256.length co50) : Value).ownBlock ∧ some k_ ≠ ((.slice Ao51 t259.length co51) : Value).ownBlock ∧ some k_ ≠ ((.slice Ao59 t266.length co59) : Value).ownBlock ∧ some k_ ≠ ((.slice Ao61 t272.length co61) : Value).ownBlock) (.slice Ao60 t269.length co60) t269) ∧ Aside0 (Kd.R (Kd.int .i64) 3 wc w.heap.size (fun k_ => some k_ ≠ (v247 : Value).ownBlock ∧ some k_ ≠ (v277 : Value).ownBlock ∧ some k_ ≠ ((.slice Ao49 t253.length co49) : Value).ownBlock ∧ some k_ ≠ ((.slice Ao50 t256.length co50) : Value).ownBlock ∧ some k_ ≠ ((.slice Ao51 t259.length co51) : Value).ownBlock ∧ some k_ ≠ ((.slice Ao59 t266.length co59) : Value).ownBlock ∧ some k_ ≠ ((.slice Ao60 t269.length co60) : Value).ownBlock) (.slice Ao61 t272.length co61) t272) ∧ Aside0 (wc.heap[gb218]? = some (.cells #[.int .i64 a0_0, .int .i64 a0_1, .int .i64 a0_2, (.slice A0_3 l0_3.length c0_3), (.slice A0_4 l0_4.length c0_4), (.slice A0_5 l0_5.length c0_5)] 38 (0, 0))) ∧ Aside0 (wc.heap[gb219]? = some (.cells #[.int .i64 a1_0, .int .i64 a1_1, .int .i64 a1_2, (.slice A1_3 l1_3.length c1_3), (.slice A1_4 l1_4.length c1_4), (.slice A1_5 l1_5.length c1_5)] 38 (0, 0))) ∧ Aside0 (wc.heap[gb262]? = some (.cells #[.int .i64 t250, .int .i64 t251, .int .i64 t252, (.slice Ao49 t253.length co49), (.slice Ao50 t256.length co50), (.slice Ao51 t259.length co51)] 44 (0, 0))) ∧ Aside0 (wc.heap[gb275]? = some (.cells #[.int .i64 t263, .int .i64 t264, .int .i64 t265, (.slice Ao59 t266.length co59), (.slice Ao60 t269.length co60), (.slice Ao61 t272.length co61)] 44 (0, 0))) ∧ Aside0 (Below w.heap.size w wc))
        case first =>
         have H := HC83.out
         clear HC83
         by_cases c90 : t306 = true
         ·subst c90
          have H1 : (laws_FnExactChangedBlocks.j2 kj72 t246 t249 t276 t279 a0_0 a0_1 a0_2 l0_3 l0_4 l0_5 a1_0 a1_1 a1_2 l1_3 l1_4 l1_5 t250 t251 t252 t253 t256 t259 t263 t264 t265 t266 t269 t272) = some r := by rw [if_pos rfl] at H; exact H
          clear H
          have H := H1
          clear H1
          have H' := Aside0.mk H
          clear H
          go_wp2
          go_meet
          case rel => exact ⟨_, H', ⟨by have := HJ24.out; have := HJ72.out; first | omega | exact Nat.le_refl _⟩, ⟨by exact rRx6 (mox6 HO_6.out)⟩, ⟨by exact rRx6 (mox6 HO_10.out)⟩, ⟨by exact rRx6 (mox6 HO_263003.out)⟩, ⟨by exact rRx6 (mox6 HO_263004.out)⟩, ⟨by exact rRx6 (mox6 HO_263005.out)⟩, ⟨by exact rRx6 (mox6 HO_276003.out)⟩, ⟨by exact rRx6 (mox6 HO_276004.out)⟩, ⟨by exact rRx6 (mox6 HO_276005.out)⟩, ⟨rBx6 BK218.out⟩, ⟨rBx6 BK219.out⟩, ⟨rBx6 BK262.out⟩, ⟨rBx6 BK275.out⟩, ⟨be4x6 HB.out GE218.out GE219.out GE262.out GE275.out⟩⟩
         ·replace c90 := Bool.eq_false_iff.mpr c90
          subst c90
          have H1 : (some false) = some r := by rw [if_neg (show ¬ (false = true) by decide)] at H; exact H
          clear H
          have H := H1
          clear H1
          obtain rfl := Option.some.inj H
          go_wp2
          go_ret
          exact ⟨by first | rfl | (simp [errW_none, errW_some] <;> rfl) | (simp [*, errW_none, errW_some] <;> rfl), be4x6 HB.out GE218.out GE219.out GE262.out GE275.out⟩
        case rest =>
         clear HC83
         try clear c90
         obtain ⟨kq, HA, HJ82, HO_6, HO_10, HO_263003, HO_263004, HO_263005, HO_276003, HO_276004, HO_276005, BK218, BK219, BK262, BK275, HB⟩ := hcut
         cases kq with
         | zero => exact absurd HA.out (by simp [laws_FnExactChangedBlocks.j2])
         | succ kj82 =>
          have H := HA.out
          clear HA
          simp only [laws_FnExactChangedBlocks.j2] at H
          replace H := Option.bind_eq_some_iff.mp H
          obtain ⟨⟨t307, t308, t309, t310⟩, A910, H⟩ := H
          (try dsimp only at H)
          have A91 := Aside0.mk A910
          clear A910
          replace H := Option.bind_eq_some_iff.mp H
          obtain ⟨⟨t311, t312, t313, t314⟩, A920, H⟩ := H
          (try dsimp only at H)
          have A92 := Aside0.mk A920
          clear A920
          have HC93 := Aside0.mk H
          clear H
          have hnb94 := NB262_218.out
          have hnc94 := NB218_262.out
          have hnb95 := NB262_219.out
          have hnc95 := NB219_262.out
          have hnb96 := NB262_275.out
          have hnc96 := NB275_262.out
          obtain ⟨hcz97_0, hcz97_1, hcz97_2, hcz97_3, hcz97_4, hcz97_5, hfz97_0, hfz97_1, hfz97_2, hfz97_3, hfz97_4, hfz97_5⟩ := cf6x6 BK262.out
          go_upto_region 21 with (first | ((with_reducible refine gate_callee (f := 36) rfl ?_); refine goesL_ (some 66) rfl rfl Try.func36 (by kernel_rfl) rfl #[.agg #[.int .i64 t250, .int .i64 t251, .int .i64 t252, .slice Ao49 t253.length co49, .slice Ao50 t256.length co50, .slice Ao51 t259.length co51], .int .i64 1] rfl mpx6 ?_; (with_reducible refine (laws_markModel.calls kj82 t250 t251 t252 (fun k_ => some k_ = (.slice Ao49 t253.length co49 : Value).ownBlock) (.slice Ao49 t253.length co49) t253 (fun k_ => some k_ = (.slice Ao50 t256.length co50 : Value).ownBlock) (.slice Ao50 t256.length co50) t256 (fun k_ => some k_ = (.slice Ao51 t259.length co51 : Value).ownBlock) (.slice Ao51 t259.length co51) t259 1 t307 t308 t309 t310 w _ ?side1 ?side2 ?side3 ?side4 ?side5 ?side6 ?side7 ?side8 ?side9 ?side10 A91.out).mono ?_); (case side1 => exact be4x6 HB.out GE218.out GE219.out GE262.out GE275.out); (case side2 => exact Kd.R_tight rfl HO_263003.out); (case side3 => exact fun k_ e_ => (HO_263003.out.1 k_ e_.symm).2.2.1); (case side4 => exact fun k_ e_ => (HO_263003.out.1 k_ e_.symm).2.2.2.1); (case side5 => exact Kd.R_tight rfl HO_263004.out); (case side6 => exact fun k_ e_ => (HO_263004.out.1 k_ e_.symm).2.2.1); (case side7 => exact fun k_ e_ => (HO_263004.out.1 k_ e_.symm).2.2.2.1); (case side8 => exact Kd.R_tight rfl HO_263005.out); (case side9 => exact fun k_ e_ => (HO_263005.out.1 k_ e_.symm).2.2.1); (case side10 => exact fun k_ e_ => (HO_263005.out.1 k_ e_.symm).2.2.2.1); rintro e w98 ⟨rfl, hy0, hy1, hy2, hb, hkp⟩; refine ⟨_, rfl, ?_⟩; replace HO_6 := Aside0.mk (Kd.R_mono (ok' := fun k_ => some k_ ≠ (v277 : Value).ownBlock ∧ some k_ ≠ (.slice Ao49 t253.length co49 : Value).ownBlock ∧ some k_ ≠ (.slice Ao50 t256.length co50 : Value).ownBlock ∧ some k_ ≠ (.slice Ao51 t259.length co51 : Value).ownBlock ∧ some k_ ≠ (.slice Ao59 t266.length co59 : Value).ownBlock ∧ some k_ ≠ (.slice Ao60 t269.length co60 : Value).ownBlock ∧ some k_ ≠ (.slice Ao61 t272.length co61 : Value).ownBlock) (Kd.R_keptB (HO_6.out) hkp (fun k_ hk_ hs_ => Or.elim hs_ (fun e_ => (hk_.2.1) e_) (fun e_ => Or.elim e_ (fun e_ => (hk_.2.2.1) e_) (fun e_ => (hk_.2.2.2.1) e_)))) (fun k_ hk_ => ⟨hk_.1.1, hk_.1.2.1, hk_.1.2.2.1, hk_.1.2.2.2.1, hk_.1.2.2.2.2.1, hk_.1.2.2.2.2.2.1, hk_.1.2.2.2.2.2.2⟩)); replace HO_10 := Aside0.mk (Kd.R_mono (ok' := fun k_ => some k_ ≠ (v247 : Value).ownBlock ∧ some k_ ≠ (.slice Ao49 t253.length co49 : Value).ownBlock ∧ some k_ ≠ (.slice Ao50 t256.length co50 : Value).ownBlock ∧ some k_ ≠ (.slice Ao51 t259.length co51 : Value).ownBlock ∧ some k_ ≠ (.slice Ao59 t266.length co59 : Value).ownBlock ∧ some k_ ≠ (.slice Ao60 t269.length co60 : Value).ownBlock ∧ some k_ ≠ (.slice Ao61 t272.length co61 : Value).ownBlock) (Kd.R_keptB (HO_10.out) hkp (fun k_ hk_ hs_ => Or.elim hs_ (fun e_ => (hk_.2.1) e_) (fun e_ => Or.elim e_ (fun e_ => (hk_.2.2.1) e_) (fun e_ => (hk_.2.2.2.1) e_)))) (fun k_ hk_ => ⟨hk_.1.1, hk_.1.2.1, hk_.1.2.2.1, hk_.1.2.2.2.1, hk_.1.2.2.2.2.1, hk_.1.2.2.2.2.2.1, hk_.1.2.2.2.2.2.2⟩)); replace HO_276003 := Aside0.mk (Kd.R_mono (ok' := fun k_ => some k_ ≠ (v247 : Value).ownBlock ∧ some k_ ≠ (v277 : Value).ownBlock ∧ some k_ ≠ (.slice Ao49 t253.length co49 : Value).ownBlock ∧ some k_ ≠ (.slice Ao50 t256.length co50 : Value).ownBlock ∧ some k_ ≠ (.slice Ao51 t259.length co51 : Value).ownBlock ∧ some k_ ≠ (.slice Ao60 t269.length co60 : Value).ownBlock ∧ some k_ ≠ (.slice Ao61 t272.length co61 : Value).ownBlock) (Kd.R_keptB (HO_276003.out) hkp (fun k_ hk_ hs_ => Or.elim hs_ (fun e_ => (hk_.2.2.1) e_) (fun e_ => Or.elim e_ (fun e_ => (hk_.2.2.2.1) e_) (fun e_ => (hk_.2.2.2.2.1) e_)))) (fun k_ hk_ => ⟨hk_.1.1, hk_.1.2.1, hk_.1.2.2.1, hk_.1.2.2.2.1, hk_.1.2.2.2.2.1, hk_.1.2.2.2.2.2.1, hk_.1.2.2.2.2.2.2⟩)); replace HO_276004 := Aside0.mk (Kd.R_mono (ok' := fun k_ => some k_ ≠ (v247 : Value).ownBlock ∧ some k_ ≠ (v277 : Value).ownBlock ∧ some k_ ≠ (.slice Ao49 t253.length co49 : Value).ownBlock ∧ some k_ ≠ (.slice Ao50 t256.length co50 : Value).ownBlock ∧ some k_ ≠ (.slice Ao51 t259.length co51 : Value).ownBlock ∧ some k_ ≠ (.slice Ao59 t266.length co59 : Value).ownBlock ∧ some k_ ≠ (.slice Ao61 t272.length co61 : Value).ownBlock) (Kd.R_keptB (HO_276004.out) hkp (fun k_ hk_ hs_ => Or.elim hs_ (fun e_ => (hk_.2.2.1) e_) (fun e_ => Or.elim e_ (fun e_ => (hk_.2.2.2.1) e_) (fun e_ => (hk_.2.2.2.2.1) e_)))) (fun k_ hk_ => ⟨hk_.1.1, hk_.1.2.1, hk_.1.2.2.1, hk_.1.2.2.2.1, hk_.1.2.2.2.2.1, hk_.1.2.2.2.2.2.1, hk_.1.2.2.2.2.2.2⟩)); replace HO_276005 := Aside0.mk (Kd.R_mono (ok' := fun k_ => some k_ ≠ (v247 : Value).ownBlock ∧ some k_ ≠ (v277 : Value).ownBlock ∧ some k_ ≠ (.slice Ao49 t253.length co49 : Value).ownBlock ∧ some k_ ≠ (.slice Ao50 t256.length co50 : Value).ownBlock ∧ some k_ ≠ (.slice Ao51 t259.length co51 : Value).ownBlock ∧ some k_ ≠ (.slice Ao59 t266.length co59 : Value).ownBlock ∧ some k_ ≠ (.slice Ao60 t269.length co60 : Value).ownBlock) (Kd.R_keptB (HO_276005.out) hkp (fun k_ hk_ hs_ => Or.elim hs_ (fun e_ => (hk_.2.2.1) e_) (fun e_ => Or.elim e_ (fun e_ => (hk_.2.2.2.1) e_) (fun e_ => (hk_.2.2.2.2.1) e_)))) (fun k_ hk_ => ⟨hk_.1.1, hk_.1.2.1, hk_.1.2.2.1, hk_.1.2.2.2.1, hk_.1.2.2.2.2.1, hk_.1.2.2.2.2.2.1, hk_.1.2.2.2.2.2.2⟩)); replace BK218 := Aside0.mk (blk_kept (rBx6 BK218.out) hkp (fun hs_ => Or.elim hs_ (fun e_ => (fun e_ => (Kd.R_ne HO_263003.out BK218.out (by decide)) e_) e_) (fun e_ => Or.elim e_ (fun e_ => (fun e_ => (Kd.R_ne HO_263004.out BK218.out (by decide)) e_) e_) (fun e_ => (fun e_ => (Kd.R_ne HO_263005.out BK218.out (by decide)) e_) e_)))); replace BK219 := Aside0.mk (blk_kept (rBx6 BK219.out) hkp (fun hs_ => Or.elim hs_ (fun e_ => (fun e_ => (Kd.R_ne HO_263003.out BK219.out (by decide)) e_) e_) (fun e_ => Or.elim e_ (fun e_ => (fun e_ => (Kd.R_ne HO_263004.out BK219.out (by decide)) e_) e_) (fun e_ => (fun e_ => (Kd.R_ne HO_263005.out BK219.out (by decide)) e_) e_)))); replace BK262 := Aside0.mk (blk_kept (rBx6 BK262.out) hkp (fun hs_ => Or.elim hs_ (fun e_ => (fun e_ => (Kd.R_ne HO_263003.out BK262.out (by decide)) e_) e_) (fun e_ => Or.elim e_ (fun e_ => (fun e_ => (Kd.R_ne HO_263004.out BK262.out (by decide)) e_) e_) (fun e_ => (fun e_ => (Kd.R_ne HO_263005.out BK262.out (by decide)) e_) e_)))); replace BK275 := Aside0.mk (blk_kept (rBx6 BK275.out) hkp (fun hs_ => Or.elim hs_ (fun e_ => (fun e_ => (Kd.R_ne HO_263003.out BK275.out (by decide)) e_) e_) (fun e_ => Or.elim e_ (fun e_ => (fun e_ => (Kd.R_ne HO_263004.out BK275.out (by decide)) e_) e_) (fun e_ => (fun e_ => (Kd.R_ne HO_263005.out BK275.out (by decide)) e_) e_)))); replace HO_263003 := Aside0.mk (Kd.R_reok rfl hy0 (fun k_ e_ => HO_263003.out.1 k_ e_)); replace HO_263004 := Aside0.mk (Kd.R_reok rfl hy1 (fun k_ e_ => HO_263004.out.1 k_ e_)); replace HO_263005 := Aside0.mk (Kd.R_reok rfl hy2 (fun k_ e_ => HO_263005.out.1 k_ e_)); replace HB := Aside0.mk (hb); (try clear hb); (try clear hkp); (try clear hy0); (try clear hy1); (try clear hy2); have hnb99 := NB275_218.out; have hnc99 := NB218_275.out; have hnb100 := NB275_219.out; have hnc100 := NB219_275.out; obtain ⟨hcz101_0, hcz101_1, hcz101_2, hcz101_3, hcz101_4, hcz101_5, hfz101_0, hfz101_1, hfz101_2, hfz101_3, hfz101_4, hfz101_5⟩ := cf6x6 BK275.out) | ((with_reducible refine gate_callee (f := 36) rfl ?_); refine goesL_ (some 69) rfl rfl Try.func36 (by kernel_rfl) rfl #[.agg #[.int .i64 t263, .int .i64 t264, .int .i64 t265, .slice Ao59 t266.length co59, .slice Ao60 t269.length co60, .slice Ao61 t272.length co61], .int .i64 t307] rfl mpx6 ?_; (with_reducible refine (laws_markModel.calls kj82 t263 t264 t265 (fun k_ => some k_ = (.slice Ao59 t266.length co59 : Value).ownBlock) (.slice Ao59 t266.length co59) t266 (fun k_ => some k_ = (.slice Ao60 t269.length co60 : Value).ownBlock) (.slice Ao60 t269.length co60) t269 (fun k_ => some k_ = (.slice Ao61 t272.length co61 : Value).ownBlock) (.slice Ao61 t272.length co61) t272 t307 t311 t312 t313 t314 w _ ?side1 ?side2 ?side3 ?side4 ?side5 ?side6 ?side7 ?side8 ?side9 ?side10 A92.out).mono ?_); (case side1 => exact be4x6 HB.out GE218.out GE219.out GE262.out GE275.out); (case side2 => exact Kd.R_tight rfl HO_276003.out); (case side3 => exact fun k_ e_ => (HO_276003.out.1 k_ e_.symm).2.2.2.2.2.1); (case side4 => exact fun k_ e_ => (HO_276003.out.1 k_ e_.symm).2.2.2.2.2.2); (case side5 => exact Kd.R_tight rfl HO_276004.out); (case side6 => exact fun k_ e_ => (HO_276004.out.1 k_ e_.symm).2.2.2.2.2.1); (case side7 => exact fun k_ e_ => (HO_276004.out.1 k_ e_.symm).2.2.2.2.2.2); (case side8 => exact Kd.R_tight rfl HO_276005.out); (case side9 => exact fun k_ e_ => (HO_276005.out.1 k_ e_.symm).2.2.2.2.2.1); (case side10 => exact fun k_ e_ => (HO_276005.out.1 k_ e_.symm).2.2.2.2.2.2); rintro e w102 ⟨rfl, hy0, hy1, hy2, hb, hkp⟩; refine ⟨_, rfl, ?_⟩; replace HO_6 := Aside0.mk (Kd.R_mono (ok' := fun k_ => some k_ ≠ (v277 : Value).ownBlock ∧ some k_ ≠ (.slice Ao49 t253.length co49 : Value).ownBlock ∧ some k_ ≠ (.slice Ao50 t256.length co50 : Value).ownBlock ∧ some k_ ≠ (.slice Ao51 t259.length co51 : Value).ownBlock ∧ some k_ ≠ (.slice Ao59 t266.length co59 : Value).ownBlock ∧ some k_ ≠ (.slice Ao60 t269.length co60 : Value).ownBlock ∧ some k_ ≠ (.slice Ao61 t272.length co61 : Value).ownBlock) (Kd.R_keptB (HO_6.out) hkp (fun k_ hk_ hs_ => Or.elim hs_ (fun e_ => (hk_.2.2.2.2.1) e_) (fun e_ => Or.elim e_ (fun e_ => (hk_.2.2.2.2.2.1) e_) (fun e_ => (hk_.2.2.2.2.2.2) e_)))) (fun k_ hk_ => ⟨hk_.1.1, hk_.1.2.1, hk_.1.2.2.1, hk_.1.2.2.2.1, hk_.1.2.2.2.2.1, hk_.1.2.2.2.2.2.1, hk_.1.2.2.2.2.2.2⟩)); replace HO_10 := Aside0.mk (Kd.R_mono (ok' := fun k_ => some k_ ≠ (v247 : Value).ownBlock ∧ some k_ ≠ (.slice Ao49 t253.length co49 : Value).ownBlock ∧ some k_ ≠ (.slice Ao50 t256.length co50 : Value).ownBlock ∧ some k_ ≠ (.slice Ao51 t259.length co51 : Value).ownBlock ∧ some k_ ≠ (.slice Ao59 t266.length co59 : Value).ownBlock ∧ some k_ ≠ (.slice Ao60 t269.length co60 : Value).ownBlock ∧ some k_ ≠ (.slice Ao61 t272.length co61 : Value).ownBlock) (Kd.R_keptB (HO_10.out) hkp (fun k_ hk_ hs_ => Or.elim hs_ (fun e_ => (hk_.2.2.2.2.1) e_) (fun e_ => Or.elim e_ (fun e_ => (hk_.2.2.2.2.2.1) e_) (fun e_ => (hk_.2.2.2.2.2.2) e_)))) (fun k_ hk_ => ⟨hk_.1.1, hk_.1.2.1, hk_.1.2.2.1, hk_.1.2.2.2.1, hk_.1.2.2.2.2.1, hk_.1.2.2.2.2.2.1, hk_.1.2.2.2.2.2.2⟩)); replace HO_263003 := Aside0.mk (Kd.R_mono (ok' := fun k_ => some k_ ≠ (v247 : Value).ownBlock ∧ some k_ ≠ (v277 : Value).ownBlock ∧ some k_ ≠ (.slice Ao50 t256.length co50 : Value).ownBlock ∧ some k_ ≠ (.slice Ao51 t259.length co51 : Value).ownBlock ∧ some k_ ≠ (.slice Ao59 t266.length co59 : Value).ownBlock ∧ some k_ ≠ (.slice Ao60 t269.length co60 : Value).ownBlock ∧ some k_ ≠ (.slice Ao61 t272.length co61 : Value).ownBlock) (Kd.R_keptB (HO_263003.out) hkp (fun k_ hk_ hs_ => Or.elim hs_ (fun e_ => (hk_.2.2.2.2.1) e_) (fun e_ => Or.elim e_ (fun e_ => (hk_.2.2.2.2.2.1) e_) (fun e_ => (hk_.2.2.2.2.2.2) e_)))) (fun k_ hk_ => ⟨hk_.1.1, hk_.1.2.1, hk_.1.2.2.1, hk_.1.2.2.2.1, hk_.1.2.2.2.2.1, hk_.1.2.2.2.2.2.1, hk_.1.2.2.2.2.2.2⟩)); replace HO_263004 := Aside0.mk (Kd.R_mono (ok' := fun k_ => some k_ ≠ (v247 : Value).ownBlock ∧ some k_ ≠ (v277 : Value).ownBlock ∧ some k_ ≠ (.slice Ao49 t253.length co49 : Value).ownBlock ∧ some k_ ≠ (.slice Ao51 t259.length co51 : Value).ownBlock ∧ some k_ ≠ (.slice Ao59 t266.length co59 : Value).ownBlock ∧ some k_ ≠ (.slice Ao60 t269.length co60 : Value).ownBlock ∧ some k_ ≠ (.slice Ao61 t272.length co61 : Value).ownBlock) (Kd.R_keptB (HO_263004.out) hkp (fun k_ hk_ hs_ => Or.elim hs_ (fun e_ => (hk_.2.2.2.2.1) e_) (fun e_ => Or.elim e_ (fun e_ => (hk_.2.2.2.2.2.1) e_) (fun e_ => (hk_.2.2.2.2.2.2) e_)))) (fun k_ hk_ => ⟨hk_.1.1, hk_.1.2.1, hk_.1.2.2.1, hk_.1.2.2.2.1, hk_.1.2.2.2.2.1, hk_.1.2.2.2.2.2.1, hk_.1.2.2.2.2.2.2⟩)); replace HO_263005 := Aside0.mk (Kd.R_mono (ok' := fun k_ => some k_ ≠ (v247 : Value).ownBlock ∧ some k_ ≠ (v277 : Value).ownBlock ∧ some k_ ≠ (.slice Ao49 t253.length co49 : Value).ownBlock ∧ some k_ ≠ (.slice Ao50 t256.length co50 : Value).ownBlock ∧ some k_ ≠ (.slice Ao59 t266.length co59 : Value).ownBlock ∧ some k_ ≠ (.slice Ao60 t269.length co60 : Value).ownBlock ∧ some k_ ≠ (.slice Ao61 t272.length co61 : Value).ownBlock) (Kd.R_keptB (HO_263005.out) hkp (fun k_ hk_ hs_ => Or.elim hs_ (fun e_ => (hk_.2.2.2.2.1) e_) (fun e_ => Or.elim e_ (fun e_ => (hk_.2.2.2.2.2.1) e_) (fun e_ => (hk_.2.2.2.2.2.2) e_)))) (fun k_ hk_ => ⟨hk_.1.1, hk_.1.2.1, hk_.1.2.2.1, hk_.1.2.2.2.1, hk_.1.2.2.2.2.1, hk_.1.2.2.2.2.2.1, hk_.1.2.2.2.2.2.2⟩)); replace BK218 := Aside0.mk (blk_kept (rBx6 BK218.out) hkp (fun hs_ => Or.elim hs_ (fun e_ => (fun e_ => (Kd.R_ne HO_276003.out BK218.out (by decide)) e_) e_) (fun e_ => Or.elim e_ (fun e_ => (fun e_ => (Kd.R_ne HO_276004.out BK218.out (by decide)) e_) e_) (fun e_ => (fun e_ => (Kd.R_ne HO_276005.out BK218.out (by decide)) e_) e_)))); replace BK219 := Aside0.mk (blk_kept (rBx6 BK219.out) hkp (fun hs_ => Or.elim hs_ (fun e_ => (fun e_ => (Kd.R_ne HO_276003.out BK219.out (by decide)) e_) e_) (fun e_ => Or.elim e_ (fun e_ => (fun e_ => (Kd.R_ne HO_276004.out BK219.out (by decide)) e_) e_) (fun e_ => (fun e_ => (Kd.R_ne HO_276005.out BK219.out (by decide)) e_) e_)))); replace BK262 := Aside0.mk (blk_kept (rBx6 BK262.out) hkp (fun hs_ => Or.elim hs_ (fun e_ => (fun e_ => (Kd.R_ne HO_276003.out BK262.out (by decide)) e_) e_) (fun e_ => Or.elim e_ (fun e_ => (fun e_ => (Kd.R_ne HO_276004.out BK262.out (by decide)) e_) e_) (fun e_ => (fun e_ => (Kd.R_ne HO_276005.out BK262.out (by decide)) e_) e_)))); replace BK275 := Aside0.mk (blk_kept (rBx6 BK275.out) hkp (fun hs_ => Or.elim hs_ (fun e_ => (fun e_ => (Kd.R_ne HO_276003.out BK275.out (by decide)) e_) e_) (fun e_ => Or.elim e_ (fun e_ => (fun e_ => (Kd.R_ne HO_276004.out BK275.out (by decide)) e_) e_) (fun e_ => (fun e_ => (Kd.R_ne HO_276005.out BK275.out (by decide)) e_) e_)))); replace HO_276003 := Aside0.mk (Kd.R_reok rfl hy0 (fun k_ e_ => HO_276003.out.1 k_ e_)); replace HO_276004 := Aside0.mk (Kd.R_reok rfl hy1 (fun k_ e_ => HO_276004.out.1 k_ e_)); replace HO_276005 := Aside0.mk (Kd.R_reok rfl hy2 (fun k_ e_ => HO_276005.out.1 k_ e_)); replace HB := Aside0.mk (hb); (try clear hb); (try clear hkp); (try clear hy0); (try clear hy1); (try clear hy2)))
          (try simp only [Act.put, List.setIfInBounds_toArray, List.set_cons_zero, List.set_cons_succ])
          go_cut [82] (fun v82 wc => ∃ (kq : Nat) (x82_92 : Bool), v82 = .bool x82_92 ∧ Aside0 (laws_FnExactChangedBlocks.j3 kq t246 t249 t276 x82_92 a0_0 a0_1 a0_2 l0_3 l0_4 l0_5 a1_0 a1_1 a1_2 l1_3 l1_4 l1_5 = some r) ∧ Aside0 (kq ≤ kj82) ∧ Aside0 (Kd.R (Kd.int .i64) 3 wc w.heap.size (fun k_ => some k_ ≠ (v277 : Value).ownBlock ∧ some k_ ≠ ((.slice Ao49 t253.length co49) : Value).ownBlock ∧ some k_ ≠ ((.slice Ao50 t256.length co50) : Value).ownBlock ∧ some k_ ≠ ((.slice Ao51 t259.length co51) : Value).ownBlock ∧ some k_ ≠ ((.slice Ao59 t266.length co59) : Value).ownBlock ∧ some k_ ≠ ((.slice Ao60 t269.length co60) : Value).ownBlock ∧ some k_ ≠ ((.slice Ao61 t272.length co61) : Value).ownBlock) v247 t246) ∧ Aside0 (Kd.R (Kd.int .i64) 3 wc w.heap.size (fun k_ => some k_ ≠ (v247 : Value).ownBlock ∧ some k_ ≠ ((.slice Ao49 t253.length co49) : Value).ownBlock ∧ some k_ ≠ ((.slice Ao50 t256.length co50) : Value).ownBlock ∧ some k_ ≠ ((.slice Ao51 t259.length co51) : Value).ownBlock ∧ some k_ ≠ ((.slice Ao59 t266.length co59) : Value).ownBlock ∧ some k_ ≠ ((.slice Ao60 t269.length co60) : Value).ownBlock ∧ some k_ ≠ ((.slice Ao61 t272.length co61) : Value).ownBlock) v277 t276) ∧ Aside0 (Kd.R (Kd.int .i64) 3 wc w.heap.size (fun k_ => some k_ ≠ (v247 : Value).ownBlock ∧ some k_ ≠ (v277 : Value).ownBlock ∧ some k_ ≠ ((.slice Ao50 t256.length co50) : Value).ownBlock ∧ some k_ ≠ ((.slice Ao51 t259.length co51) : Value).ownBlock ∧ some k_ ≠ ((.slice Ao59 t266.length co59) : Value).ownBlock ∧ some k_ ≠ ((.slice Ao60 t269.length co60) : Value).ownBlock ∧ some k_ ≠ ((.slice Ao61 t272.length co61) : Value).ownBlock) (.slice Ao49 t253.length co49) t308) ∧ Aside0 (Kd.R (Kd.int .i64) 3 wc w.heap.size (fun k_ => some k_ ≠ (v247 : Value).ownBlock ∧ some k_ ≠ (v277 : Value).ownBlock ∧ some k_ ≠ ((.slice Ao49 t253.length co49) : Value).ownBlock ∧ some k_ ≠ ((.slice Ao51 t259.length co51) : Value).ownBlock ∧ some k_ ≠ ((.slice Ao59 t266.length co59) : Value).ownBlock ∧ some k_ ≠ ((.slice Ao60 t269.length co60) : Value).ownBlock ∧ some k_ ≠ ((.slice Ao61 t272.length co61) : Value).ownBlock) (.slice Ao50 t256.length co50) t309) ∧ Aside0 (Kd.R (Kd.int .i64) 3 wc w.heap.size (fun k_ => some k_ ≠ (v247 : Value).ownBlock ∧ some k_ ≠ (v277 : Value).ownBlock ∧ some k_ ≠ ((.slice Ao49 t253.length co49) : Value).ownBlock ∧ some k_ ≠ ((.slice Ao50 t256.length co50) : Value).ownBlock ∧ some k_ ≠ ((.slice Ao59 t266.length co59) : Value).ownBlock ∧ some k_ ≠ ((.slice Ao60 t269.length co60) : Value).ownBlock ∧ some k_ ≠ ((.slice Ao61 t272.length co61) : Value).ownBlock) (.slice Ao51 t259.length co51) t310) ∧ Aside0 (Kd.R (Kd.int .i64) 3 wc w.heap.size (fun k_ => some k_ ≠ (v247 : Value).ownBlock ∧ some k_ ≠ (v277 : Value).ownBlock ∧ some k_ ≠ ((.slice Ao49 t253.length co49) : Value).ownBlock ∧ some k_ ≠ ((.slice Ao50 t256.length co50) : Value).ownBlock ∧ some k_ ≠ ((.slice Ao51 t259.length co51) : Value).ownBlock ∧ some k_ ≠ ((.slice Ao60 t269.length co60) : Value).ownBlock ∧ some k_ ≠ ((.slice Ao61 t272.length co61) : Value).ownBlock) (.slice Ao59 t266.length co59) t312) ∧ Aside0 (Kd.R (Kd.int .i64) 3 wc w.heap.size (fun k_ => some k_ ≠ (v247 : Value).ownBlock ∧ some k_ ≠ (v277 : Value).ownBlock ∧ some k_ ≠ ((.slice Ao49 t253.length co49) : Value).ownBlock ∧ some k_ ≠ ((.slice Ao50 t256.length co50) : Value).ownBlock ∧ some k_ ≠ ((.slice Ao51 t259.length co51) : Value).ownBlock ∧ some k_ ≠ ((.slice Ao59 t266.length co59) : Value).ownBlock ∧ some k_ ≠ ((.slice Ao61 t272.length co61) : Value).ownBlock) (.slice Ao60 t269.length co60) t313) ∧ Aside0 (Kd.R (Kd.int .i64) 3 wc w.heap.size (fun k_ => some k_ ≠ (v247 : Value).ownBlock ∧ some k_ ≠ (v277 : Value).ownBlock ∧ some k_ ≠ ((.slice Ao49 t253.length co49) : Value).ownBlock ∧ some k_ ≠ ((.slice Ao50 t256.length co50) : Value).ownBlock ∧ some k_ ≠ ((.slice Ao51 t259.length co51) : Value).ownBlock ∧ some k_ ≠ ((.slice Ao59 t266.length co59) : Value).ownBlock ∧ some k_ ≠ ((.slice Ao60 t269.length co60) : Value).ownBlock) (.slice Ao61 t272.length co61) t314) ∧ Aside0 (wc.heap[gb218]? = some (.cells #[.int .i64 a0_0, .int .i64 a0_1, .int .i64 a0_2, (.slice A0_3 l0_3.length c0_3), (.slice A0_4 l0_4.length c0_4), (.slice A0_5 l0_5.length c0_5)] 38 (0, 0))) ∧ Aside0 (wc.heap[gb219]? = some (.cells #[.int .i64 a1_0, .int .i64 a1_1, .int .i64 a1_2, (.slice A1_3 l1_3.length c1_3), (.slice A1_4 l1_4.length c1_4), (.slice A1_5 l1_5.length c1_5)] 38 (0, 0))) ∧ Aside0 (wc.heap[gb262]? = some (.cells #[.int .i64 t250, .int .i64 t251, .int .i64 t252, (.slice Ao49 t253.length co49), (.slice Ao50 t256.length co50), (.slice Ao51 t259.length co51)] 44 (0, 0))) ∧ Aside0 (wc.heap[gb275]? = some (.cells #[.int .i64 t263, .int .i64 t264, .int .i64 t265, (.slice Ao59 t266.length co59), (.slice Ao60 t269.length co60), (.slice Ao61 t272.length co61)] 44 (0, 0))) ∧ Aside0 (Below w.heap.size w wc))
          case first =>
           have H := HC93.out
           clear HC93
           by_cases c103 : t311 < 0
           ·rw [if_pos c103] at H
            have c103b0 : decide (t311 < 0) = true := decide_eq_true c103
            clear c103
            (first | rw [c103b0] | (simp only [i64_w, i32_w]; rw [c103b0]) | skip)
            have H' := Aside0.mk H
            clear H
            go_wp2
            go_meet
            case rel => exact ⟨_, (true), (by first | rfl | (simp; done) | (simp [*]; done)), H', ⟨by have := HJ24.out; have := HJ72.out; have := HJ82.out; first | omega | exact Nat.le_refl _⟩, ⟨rRx6 HO_6.out⟩, ⟨rRx6 HO_10.out⟩, ⟨rRx6 HO_263003.out⟩, ⟨rRx6 HO_263004.out⟩, ⟨rRx6 HO_263005.out⟩, ⟨rRx6 HO_276003.out⟩, ⟨rRx6 HO_276004.out⟩, ⟨rRx6 HO_276005.out⟩, ⟨rBx6 BK218.out⟩, ⟨rBx6 BK219.out⟩, ⟨rBx6 BK262.out⟩, ⟨rBx6 BK275.out⟩, ⟨be4x6 HB.out GE218.out GE219.out GE262.out GE275.out⟩⟩
           ·rw [if_neg c103] at H
            have c103b0 : decide (t311 < 0) = false := decide_eq_false c103
            clear c103
            (first | rw [c103b0] | (simp only [i64_w, i32_w]; rw [c103b0]) | skip)
            replace H := Option.bind_eq_some_iff.mp H
            obtain ⟨t315, A1040, H⟩ := H
            have A104 := Aside0.mk A1040
            clear A1040
            by_cases c105 : t315 = true
            ·subst c105
             have H1 : (laws_FnExactChangedBlocks.j3 kj82 t246 t249 t276 (t279 != t249) a0_0 a0_1 a0_2 l0_3 l0_4 l0_5 a1_0 a1_1 a1_2 l1_3 l1_4 l1_5) = some r := by rw [if_pos rfl] at H; exact H
             clear H
             have H := H1
             clear H1
             have H' := Aside0.mk H
             clear H
             obtain ⟨Ao106, co106, eo106⟩ := Kd.R_slice HO_10.out
             subst eo106
             obtain ⟨Ao107, co107, eo107⟩ := Kd.R_slice HO_6.out
             subst eo107
             go_wp2_with (first | (go_at_call 35; (with_reducible refine (laws_eqIntS.calls kj82 _ _ t276 _ _ t246 true _ ?side1 ?side2 ?side3 ?side4 A104.out).mono ?_); (case side1 => exact cRx6 HO_10.out); (case side2 => exact (Kd.R_reads' HO_10.out).2.1); (case side3 => exact cRx6 HO_6.out); (case side4 => exact (Kd.R_reads' HO_6.out).2.1); rintro e w' ⟨rfl, ⟨nd, rfl⟩⟩))
             go_meet
             case rel => exact ⟨_, ((t279 != t249)), (by first | rfl | (simp; done) | (simp [*]; done)), H', ⟨by have := HJ24.out; have := HJ72.out; have := HJ82.out; first | omega | exact Nat.le_refl _⟩, ⟨rRx6 HO_6.out⟩, ⟨rRx6 HO_10.out⟩, ⟨rRx6 HO_263003.out⟩, ⟨rRx6 HO_263004.out⟩, ⟨rRx6 HO_263005.out⟩, ⟨rRx6 HO_276003.out⟩, ⟨rRx6 HO_276004.out⟩, ⟨rRx6 HO_276005.out⟩, ⟨rBx6 BK218.out⟩, ⟨rBx6 BK219.out⟩, ⟨rBx6 BK262.out⟩, ⟨rBx6 BK275.out⟩, ⟨be4x6 HB.out GE218.out GE219.out GE262.out GE275.out⟩⟩
            ·replace c105 := Bool.eq_false_iff.mpr c105
             subst c105
             have H1 : (laws_FnExactChangedBlocks.j3 kj82 t246 t249 t276 true a0_0 a0_1 a0_2 l0_3 l0_4 l0_5 a1_0 a1_1 a1_2 l1_3 l1_4 l1_5) = some r := by rw [if_neg (show ¬ (false = true) by decide)] at H; exact H
             clear H
             have H := H1
             clear H1
             have H' := Aside0.mk H
             clear H
             obtain ⟨Ao108, co108, eo108⟩ := Kd.R_slice HO_10.out
             subst eo108
             obtain ⟨Ao109, co109, eo109⟩ := Kd.R_slice HO_6.out
             subst eo109
             go_wp2_with (first | (go_at_call 35; (with_reducible refine (laws_eqIntS.calls kj82 _ _ t276 _ _ t246 false _ ?side1 ?side2 ?side3 ?side4 A104.out).mono ?_); (case side1 => exact cRx6 HO_10.out); (case side2 => exact (Kd.R_reads' HO_10.out).2.1); (case side3 => exact cRx6 HO_6.out); (case side4 => exact (Kd.R_reads' HO_6.out).2.1); rintro e w' ⟨rfl, ⟨nd, rfl⟩⟩))
             go_meet
             case rel => exact ⟨_, (true), (by first | rfl | (simp; done) | (simp [*]; done)), H', ⟨by have := HJ24.out; have := HJ72.out; have := HJ82.out; first | omega | exact Nat.le_refl _⟩, ⟨rRx6 HO_6.out⟩, ⟨rRx6 HO_10.out⟩, ⟨rRx6 HO_263003.out⟩, ⟨rRx6 HO_263004.out⟩, ⟨rRx6 HO_263005.out⟩, ⟨rRx6 HO_276003.out⟩, ⟨rRx6 HO_276004.out⟩, ⟨rRx6 HO_276005.out⟩, ⟨rBx6 BK218.out⟩, ⟨rBx6 BK219.out⟩, ⟨rBx6 BK262.out⟩, ⟨rBx6 BK275.out⟩, ⟨be4x6 HB.out GE218.out GE219.out GE262.out GE275.out⟩⟩
          case rest =>
           clear HC93
           try clear c103; try clear c103b0; try clear c105; try clear hcz101_0 hcz101_1 hcz101_2 hcz101_3 hcz101_4 hcz101_5; try clear hcz97_0 hcz97_1 hcz97_2 hcz97_3 hcz97_4 hcz97_5; try clear hfz101_0 hfz101_1 hfz101_2 hfz101_3 hfz101_4 hfz101_5; try clear hfz97_0 hfz97_1 hfz97_2 hfz97_3 hfz97_4 hfz97_5
           obtain ⟨kq, x82_92, rfl, HA, HJ92, HO_6, HO_10, HO_263003, HO_263004, HO_263005, HO_276003, HO_276004, HO_276005, BK218, BK219, BK262, BK275, HB⟩ := hcut
           have hl263003_92 := (Kd.R_reads' HO_263003.out).1
           rw [hl263003_92] at HO_263003
           (try simp only [hl263003_92])
           (try simp only [hl263003_92] at BK218)
           (try simp only [hl263003_92] at BK219)
           (try simp only [hl263003_92] at BK262)
           (try simp only [hl263003_92] at BK275)
           (try simp only [hl263003_92] at HO_6)
           (try simp only [hl263003_92] at HO_10)
           (try simp only [hl263003_92] at HO_263004)
           (try simp only [hl263003_92] at HO_263005)
           (try simp only [hl263003_92] at HO_276003)
           (try simp only [hl263003_92] at HO_276004)
           (try simp only [hl263003_92] at HO_276005)
           have hl263004_92 := (Kd.R_reads' HO_263004.out).1
           rw [hl263004_92] at HO_263004
           (try simp only [hl263004_92])
           (try simp only [hl263004_92] at BK218)
           (try simp only [hl263004_92] at BK219)
           (try simp only [hl263004_92] at BK262)
           (try simp only [hl263004_92] at BK275)
           (try simp only [hl263004_92] at HO_6)
           (try simp only [hl263004_92] at HO_10)
           (try simp only [hl263004_92] at HO_263003)
           (try simp only [hl263004_92] at HO_263005)
           (try simp only [hl263004_92] at HO_276003)
           (try simp only [hl263004_92] at HO_276004)
           (try simp only [hl263004_92] at HO_276005)
           have hl263005_92 := (Kd.R_reads' HO_263005.out).1
           rw [hl263005_92] at HO_263005
           (try simp only [hl263005_92])
           (try simp only [hl263005_92] at BK218)
           (try simp only [hl263005_92] at BK219)
           (try simp only [hl263005_92] at BK262)
           (try simp only [hl263005_92] at BK275)
           (try simp only [hl263005_92] at HO_6)
           (try simp only [hl263005_92] at HO_10)
           (try simp only [hl263005_92] at HO_263003)
           (try simp only [hl263005_92] at HO_263004)
           (try simp only [hl263005_92] at HO_276003)
           (try simp only [hl263005_92] at HO_276004)
           (try simp only [hl263005_92] at HO_276005)
           have hl276003_92 := (Kd.R_reads' HO_276003.out).1
           rw [hl276003_92] at HO_276003
           (try simp only [hl276003_92])
           (try simp only [hl276003_92] at BK218)
           (try simp only [hl276003_92] at BK219)
           (try simp only [hl276003_92] at BK262)
           (try simp only [hl276003_92] at BK275)
           (try simp only [hl276003_92] at HO_6)
           (try simp only [hl276003_92] at HO_10)
           (try simp only [hl276003_92] at HO_263003)
           (try simp only [hl276003_92] at HO_263004)
           (try simp only [hl276003_92] at HO_263005)
           (try simp only [hl276003_92] at HO_276004)
           (try simp only [hl276003_92] at HO_276005)
           have hl276004_92 := (Kd.R_reads' HO_276004.out).1
           rw [hl276004_92] at HO_276004
           (try simp only [hl276004_92])
           (try simp only [hl276004_92] at BK218)
           (try simp only [hl276004_92] at BK219)
           (try simp only [hl276004_92] at BK262)
           (try simp only [hl276004_92] at BK275)
           (try simp only [hl276004_92] at HO_6)
           (try simp only [hl276004_92] at HO_10)
           (try simp only [hl276004_92] at HO_263003)
           (try simp only [hl276004_92] at HO_263004)
           (try simp only [hl276004_92] at HO_263005)
           (try simp only [hl276004_92] at HO_276003)
           (try simp only [hl276004_92] at HO_276005)
           have hl276005_92 := (Kd.R_reads' HO_276005.out).1
           rw [hl276005_92] at HO_276005
           (try simp only [hl276005_92])
           (try simp only [hl276005_92] at BK218)
           (try simp only [hl276005_92] at BK219)
           (try simp only [hl276005_92] at BK262)
           (try simp only [hl276005_92] at BK275)
           (try simp only [hl276005_92] at HO_6)
           (try simp only [hl276005_92] at HO_10)
           (try simp only [hl276005_92] at HO_263003)
           (try simp only [hl276005_92] at HO_263004)
           (try simp only [hl276005_92] at HO_263005)
           (try simp only [hl276005_92] at HO_276003)
           (try simp only [hl276005_92] at HO_276004)
           cases kq with
           | zero => exact absurd HA.out (by simp [laws_FnExactChangedBlocks.j3])
           | succ kj92 =>
            have H := HA.out
            clear HA
            simp only [laws_FnExactChangedBlocks.j3] at H
            by_cases c110 : x82_92 = true
            ·subst c110
             have H1 : (some false) = some r := by rw [if_pos rfl] at H; exact H
             clear H
             have H := H1
             clear H1
             obtain rfl := Option.some.inj H
             go_wp2
             go_ret
             exact ⟨by first | rfl | (simp [errW_none, errW_some] <;> rfl) | (simp [*, errW_none, errW_some] <;> rfl), be4x6 HB.out GE218.out GE219.out GE262.out GE275.out⟩
            ·replace c110 := Bool.eq_false_iff.mpr c110
             subst c110
             have H1 : ((laws_markIntS.f kj92 t276 1).bind fun bt316 => ((laws_heldIntS.f kj92 bt316.2 1).bind fun t318 => (if t318 < 0 then (some false) else (if t318 = bt316.1 then ((laws_toModel.f kj92 a0_0 a0_1 a0_2 l0_3 l0_4 l0_5).bind fun bt319 => ((laws_toModel.f kj92 a1_0 a1_1 a1_2 l1_3 l1_4 l1_5).bind fun bt331 => ((impl_ChangedBlocks.f kj92 bt319.1 bt319.2.1 bt319.2.2.1 bt319.2.2.2.1 bt319.2.2.2.2.1 bt319.2.2.2.2.2 bt331.1 bt331.2.1 bt331.2.2.1 bt331.2.2.2.1 bt331.2.2.2.2.1 bt331.2.2.2.2.2).bind fun bt343 => ((laws_eqIntS.f kj92 bt343.1 t246).bind fun t347 => (if t347 = true then (laws_FnExactChangedBlocks.j4 kj92 bt316.2 bt316.1 (bt343.2 != t249)) else (laws_FnExactChangedBlocks.j4 kj92 bt316.2 bt316.1 true)))))) else (some false))))) = some r := by rw [if_neg (show ¬ (false = true) by decide)] at H; exact H
             clear H
             have H := H1
             clear H1
             replace H := Option.bind_eq_some_iff.mp H
             obtain ⟨⟨t316, t317⟩, A1110, H⟩ := H
             (try dsimp only at H)
             have A111 := Aside0.mk A1110
             clear A1110
             replace H := Option.bind_eq_some_iff.mp H
             obtain ⟨t318, A1120, H⟩ := H
             have A112 := Aside0.mk A1120
             clear A1120
             by_cases c113 : t318 < 0
             ·rw [if_pos c113] at H
              have c113b0 : decide (t318 < 0) = true := decide_eq_true c113
              clear c113
              obtain rfl := Option.some.inj H
              obtain ⟨Ao114, co114, eo114⟩ := Kd.R_slice HO_10.out
              subst eo114
              go_wp2_with (first | ((with_reducible refine gate_callee (f := 37) rfl ?_); refine goesL_ (some 85) rfl rfl Try.func37 (by kernel_rfl) rfl #[.slice Ao114 t276.length co114, .int .i64 1] rfl mpx6 ?_; (with_reducible refine (laws_markIntS.calls kj92 (fun k_ => some k_ = (.slice Ao114 t276.length co114 : Value).ownBlock) (.slice Ao114 t276.length co114) t276 1 t316 t317 w _ ?side1 ?side2 A111.out).mono ?_); (case side1 => exact be4x6 HB.out GE218.out GE219.out GE262.out GE275.out); (case side2 => exact Kd.R_tight rfl HO_10.out); rintro e w115 ⟨rfl, hy0, hb, hkp⟩; refine ⟨_, rfl, ?_⟩; replace HO_6 := Aside0.mk (Kd.R_mono (ok' := fun k_ => some k_ ≠ (.slice Ao114 t276.length co114 : Value).ownBlock ∧ some k_ ≠ (.slice Ao49 t308.length co49 : Value).ownBlock ∧ some k_ ≠ (.slice Ao50 t309.length co50 : Value).ownBlock ∧ some k_ ≠ (.slice Ao51 t310.length co51 : Value).ownBlock ∧ some k_ ≠ (.slice Ao59 t312.length co59 : Value).ownBlock ∧ some k_ ≠ (.slice Ao60 t313.length co60 : Value).ownBlock ∧ some k_ ≠ (.slice Ao61 t314.length co61 : Value).ownBlock) (Kd.R_keptB (HO_6.out) hkp (fun k_ hk_ hs_ => (hk_.1) hs_)) (fun k_ hk_ => ⟨hk_.1.1, hk_.1.2.1, hk_.1.2.2.1, hk_.1.2.2.2.1, hk_.1.2.2.2.2.1, hk_.1.2.2.2.2.2.1, hk_.1.2.2.2.2.2.2⟩)); replace HO_263003 := Aside0.mk (Kd.R_mono (ok' := fun k_ => some k_ ≠ (v247 : Value).ownBlock ∧ some k_ ≠ (.slice Ao114 t276.length co114 : Value).ownBlock ∧ some k_ ≠ (.slice Ao50 t309.length co50 : Value).ownBlock ∧ some k_ ≠ (.slice Ao51 t310.length co51 : Value).ownBlock ∧ some k_ ≠ (.slice Ao59 t312.length co59 : Value).ownBlock ∧ some k_ ≠ (.slice Ao60 t313.length co60 : Value).ownBlock ∧ some k_ ≠ (.slice Ao61 t314.length co61 : Value).ownBlock) (Kd.R_keptB (HO_263003.out) hkp (fun k_ hk_ hs_ => (hk_.2.1) hs_)) (fun k_ hk_ => ⟨hk_.1.1, hk_.1.2.1, hk_.1.2.2.1, hk_.1.2.2.2.1, hk_.1.2.2.2.2.1, hk_.1.2.2.2.2.2.1, hk_.1.2.2.2.2.2.2⟩)); replace HO_263004 := Aside0.mk (Kd.R_mono (ok' := fun k_ => some k_ ≠ (v247 : Value).ownBlock ∧ some k_ ≠ (.slice Ao114 t276.length co114 : Value).ownBlock ∧ some k_ ≠ (.slice Ao49 t308.length co49 : Value).ownBlock ∧ some k_ ≠ (.slice Ao51 t310.length co51 : Value).ownBlock ∧ some k_ ≠ (.slice Ao59 t312.length co59 : Value).ownBlock ∧ some k_ ≠ (.slice Ao60 t313.length co60 : Value).ownBlock ∧ some k_ ≠ (.slice Ao61 t314.length co61 : Value).ownBlock) (Kd.R_keptB (HO_263004.out) hkp (fun k_ hk_ hs_ => (hk_.2.1) hs_)) (fun k_ hk_ => ⟨hk_.1.1, hk_.1.2.1, hk_.1.2.2.1, hk_.1.2.2.2.1, hk_.1.2.2.2.2.1, hk_.1.2.2.2.2.2.1, hk_.1.2.2.2.2.2.2⟩)); replace HO_263005 := Aside0.mk (Kd.R_mono (ok' := fun k_ => some k_ ≠ (v247 : Value).ownBlock ∧ some k_ ≠ (.slice Ao114 t276.length co114 : Value).ownBlock ∧ some k_ ≠ (.slice Ao49 t308.length co49 : Value).ownBlock ∧ some k_ ≠ (.slice Ao50 t309.length co50 : Value).ownBlock ∧ some k_ ≠ (.slice Ao59 t312.length co59 : Value).ownBlock ∧ some k_ ≠ (.slice Ao60 t313.length co60 : Value).ownBlock ∧ some k_ ≠ (.slice Ao61 t314.length co61 : Value).ownBlock) (Kd.R_keptB (HO_263005.out) hkp (fun k_ hk_ hs_ => (hk_.2.1) hs_)) (fun k_ hk_ => ⟨hk_.1.1, hk_.1.2.1, hk_.1.2.2.1, hk_.1.2.2.2.1, hk_.1.2.2.2.2.1, hk_.1.2.2.2.2.2.1, hk_.1.2.2.2.2.2.2⟩)); replace HO_276003 := Aside0.mk (Kd.R_mono (ok' := fun k_ => some k_ ≠ (v247 : Value).ownBlock ∧ some k_ ≠ (.slice Ao114 t276.length co114 : Value).ownBlock ∧ some k_ ≠ (.slice Ao49 t308.length co49 : Value).ownBlock ∧ some k_ ≠ (.slice Ao50 t309.length co50 : Value).ownBlock ∧ some k_ ≠ (.slice Ao51 t310.length co51 : Value).ownBlock ∧ some k_ ≠ (.slice Ao60 t313.length co60 : Value).ownBlock ∧ some k_ ≠ (.slice Ao61 t314.length co61 : Value).ownBlock) (Kd.R_keptB (HO_276003.out) hkp (fun k_ hk_ hs_ => (hk_.2.1) hs_)) (fun k_ hk_ => ⟨hk_.1.1, hk_.1.2.1, hk_.1.2.2.1, hk_.1.2.2.2.1, hk_.1.2.2.2.2.1, hk_.1.2.2.2.2.2.1, hk_.1.2.2.2.2.2.2⟩)); replace HO_276004 := Aside0.mk (Kd.R_mono (ok' := fun k_ => some k_ ≠ (v247 : Value).ownBlock ∧ some k_ ≠ (.slice Ao114 t276.length co114 : Value).ownBlock ∧ some k_ ≠ (.slice Ao49 t308.length co49 : Value).ownBlock ∧ some k_ ≠ (.slice Ao50 t309.length co50 : Value).ownBlock ∧ some k_ ≠ (.slice Ao51 t310.length co51 : Value).ownBlock ∧ some k_ ≠ (.slice Ao59 t312.length co59 : Value).ownBlock ∧ some k_ ≠ (.slice Ao61 t314.length co61 : Value).ownBlock) (Kd.R_keptB (HO_276004.out) hkp (fun k_ hk_ hs_ => (hk_.2.1) hs_)) (fun k_ hk_ => ⟨hk_.1.1, hk_.1.2.1, hk_.1.2.2.1, hk_.1.2.2.2.1, hk_.1.2.2.2.2.1, hk_.1.2.2.2.2.2.1, hk_.1.2.2.2.2.2.2⟩)); replace HO_276005 := Aside0.mk (Kd.R_mono (ok' := fun k_ => some k_ ≠ (v247 : Value).ownBlock ∧ some k_ ≠ (.slice Ao114 t276.length co114 : Value).ownBlock ∧ some k_ ≠ (.slice Ao49 t308.length co49 : Value).ownBlock ∧ some k_ ≠ (.slice Ao50 t309.length co50 : Value).ownBlock ∧ some k_ ≠ (.slice Ao51 t310.length co51 : Value).ownBlock ∧ some k_ ≠ (.slice Ao59 t312.length co59 : Value).ownBlock ∧ some k_ ≠ (.slice Ao60 t313.length co60 : Value).ownBlock) (Kd.R_keptB (HO_276005.out) hkp (fun k_ hk_ hs_ => (hk_.2.1) hs_)) (fun k_ hk_ => ⟨hk_.1.1, hk_.1.2.1, hk_.1.2.2.1, hk_.1.2.2.2.1, hk_.1.2.2.2.2.1, hk_.1.2.2.2.2.2.1, hk_.1.2.2.2.2.2.2⟩)); replace BK218 := Aside0.mk (blk_kept (rBx6 BK218.out) hkp (fun hs_ => (fun e_ => (Kd.R_ne HO_10.out BK218.out (by decide)) e_) hs_)); replace BK219 := Aside0.mk (blk_kept (rBx6 BK219.out) hkp (fun hs_ => (fun e_ => (Kd.R_ne HO_10.out BK219.out (by decide)) e_) hs_)); replace BK262 := Aside0.mk (blk_kept (rBx6 BK262.out) hkp (fun hs_ => (fun e_ => (Kd.R_ne HO_10.out BK262.out (by decide)) e_) hs_)); replace BK275 := Aside0.mk (blk_kept (rBx6 BK275.out) hkp (fun hs_ => (fun e_ => (Kd.R_ne HO_10.out BK275.out (by decide)) e_) hs_)); replace HO_10 := Aside0.mk (Kd.R_reok rfl hy0 (fun k_ e_ => HO_10.out.1 k_ e_)); replace HB := Aside0.mk (hb); (try clear hb); (try clear hkp); (try clear hy0)) | ((with_reducible refine gate_callee (f := 38) rfl ?_); refine goesL_ (some 88) rfl rfl Try.func38 (by kernel_rfl) rfl #[.slice Ao114 t317.length co114, .int .i64 1] rfl (by (try simp only [List.map_toArray, List.map_cons, List.map_nil]); first | done | (rw [show t317.length = t276.length from (Kd.R_reads' HO_10.out).1.symm] <;> rfl) | rfl | (simp only [List.length_drop, List.length_take]; rfl)) ?_; (with_reducible refine (laws_heldIntS.calls kj92 _ _ t317 1 t318 _ ?side1 ?side2 A112.out).mono ?_); (case side1 => exact cRx6 HO_10.out); (case side2 => rw [show t317.length = t276.length from (Kd.R_reads' HO_10.out).1.symm]; exact (Kd.R_reads' HO_10.out).2.1); rintro e w' ⟨rfl, ⟨nd, rfl⟩⟩; refine ⟨_, rfl, ?_⟩))
              go_ret
              exact ⟨by first | rfl | (simp [errW_none, errW_some] <;> rfl) | (simp [*, errW_none, errW_some] <;> rfl), be4x6 HB.out GE218.out GE219.out GE262.out GE275.out⟩
             ·rw [if_neg c113] at H
              have c113b0 : decide (t318 < 0) = false := decide_eq_false c113
              clear c113
              by_cases c116 : t318 = t316
              ·rw [if_pos c116] at H
               have c116b0 : (t318 == t316) = true := beq_iff_eq.mpr c116
               have c116b1 : (t318 != t316) = false := bne_eq_false_iff_eq.mpr c116
               clear c116
               replace H := Option.bind_eq_some_iff.mp H
               obtain ⟨⟨t319, t320, t321, t322, t325, t328⟩, A1170, H⟩ := H
               (try dsimp only at H)
               have A117 := Aside0.mk A1170
               clear A1170
               replace H := Option.bind_eq_some_iff.mp H
               obtain ⟨⟨t331, t332, t333, t334, t337, t340⟩, A1180, H⟩ := H
               (try dsimp only at H)
               have A118 := Aside0.mk A1180
               clear A1180
               replace H := Option.bind_eq_some_iff.mp H
               obtain ⟨⟨t343, t346⟩, A1190, H⟩ := H
               (try dsimp only at H)
               have A119 := Aside0.mk A1190
               clear A1190
               have HC120 := Aside0.mk H
               clear H
               obtain ⟨Ao121, co121, eo121⟩ := Kd.R_slice HO_10.out
               subst eo121
               try go_wp2_with (first | ((with_reducible refine gate_callee (f := 37) rfl ?_); refine goesL_ (some 85) rfl rfl Try.func37 (by kernel_rfl) rfl #[.slice Ao121 t276.length co121, .int .i64 1] rfl mpx6 ?_; (with_reducible refine (laws_markIntS.calls kj92 (fun k_ => some k_ = (.slice Ao121 t276.length co121 : Value).ownBlock) (.slice Ao121 t276.length co121) t276 1 t316 t317 w _ ?side1 ?side2 A111.out).mono ?_); (case side1 => exact be4x6 HB.out GE218.out GE219.out GE262.out GE275.out); (case side2 => exact Kd.R_tight rfl HO_10.out); rintro e w122 ⟨rfl, hy0, hb, hkp⟩; refine ⟨_, rfl, ?_⟩; replace HO_6 := Aside0.mk (Kd.R_mono (ok' := fun k_ => some k_ ≠ (.slice Ao121 t276.length co121 : Value).ownBlock ∧ some k_ ≠ (.slice Ao49 t308.length co49 : Value).ownBlock ∧ some k_ ≠ (.slice Ao50 t309.length co50 : Value).ownBlock ∧ some k_ ≠ (.slice Ao51 t310.length co51 : Value).ownBlock ∧ some k_ ≠ (.slice Ao59 t312.length co59 : Value).ownBlock ∧ some k_ ≠ (.slice Ao60 t313.length co60 : Value).ownBlock ∧ some k_ ≠ (.slice Ao61 t314.length co61 : Value).ownBlock) (Kd.R_keptB (HO_6.out) hkp (fun k_ hk_ hs_ => (hk_.1) hs_)) (fun k_ hk_ => ⟨hk_.1.1, hk_.1.2.1, hk_.1.2.2.1, hk_.1.2.2.2.1, hk_.1.2.2.2.2.1, hk_.1.2.2.2.2.2.1, hk_.1.2.2.2.2.2.2⟩)); replace HO_263003 := Aside0.mk (Kd.R_mono (ok' := fun k_ => some k_ ≠ (v247 : Value).ownBlock ∧ some k_ ≠ (.slice Ao121 t276.length co121 : Value).ownBlock ∧ some k_ ≠ (.slice Ao50 t309.length co50 : Value).ownBlock ∧ some k_ ≠ (.slice Ao51 t310.length co51 : Value).ownBlock ∧ some k_ ≠ (.slice Ao59 t312.length co59 : Value).ownBlock ∧ some k_ ≠ (.slice Ao60 t313.length co60 : Value).ownBlock ∧ some k_ ≠ (.slice Ao61 t314.length co61 : Value).ownBlock) (Kd.R_keptB (HO_263003.out) hkp (fun k_ hk_ hs_ => (hk_.2.1) hs_)) (fun k_ hk_ => ⟨hk_.1.1, hk_.1.2.1, hk_.1.2.2.1, hk_.1.2.2.2.1, hk_.1.2.2.2.2.1, hk_.1.2.2.2.2.2.1, hk_.1.2.2.2.2.2.2⟩)); replace HO_263004 := Aside0.mk (Kd.R_mono (ok' := fun k_ => some k_ ≠ (v247 : Value).ownBlock ∧ some k_ ≠ (.slice Ao121 t276.length co121 : Value).ownBlock ∧ some k_ ≠ (.slice Ao49 t308.length co49 : Value).ownBlock ∧ some k_ ≠ (.slice Ao51 t310.length co51 : Value).ownBlock ∧ some k_ ≠ (.slice Ao59 t312.length co59 : Value).ownBlock ∧ some k_ ≠ (.slice Ao60 t313.length co60 : Value).ownBlock ∧ some k_ ≠ (.slice Ao61 t314.length co61 : Value).ownBlock) (Kd.R_keptB (HO_263004.out) hkp (fun k_ hk_ hs_ => (hk_.2.1) hs_)) (fun k_ hk_ => ⟨hk_.1.1, hk_.1.2.1, hk_.1.2.2.1, hk_.1.2.2.2.1, hk_.1.2.2.2.2.1, hk_.1.2.2.2.2.2.1, hk_.1.2.2.2.2.2.2⟩)); replace HO_263005 := Aside0.mk (Kd.R_mono (ok' := fun k_ => some k_ ≠ (v247 : Value).ownBlock ∧ some k_ ≠ (.slice Ao121 t276.length co121 : Value).ownBlock ∧ some k_ ≠ (.slice Ao49 t308.length co49 : Value).ownBlock ∧ some k_ ≠ (.slice Ao50 t309.length co50 : Value).ownBlock ∧ some k_ ≠ (.slice Ao59 t312.length co59 : Value).ownBlock ∧ some k_ ≠ (.slice Ao60 t313.length co60 : Value).ownBlock ∧ some k_ ≠ (.slice Ao61 t314.length co61 : Value).ownBlock) (Kd.R_keptB (HO_263005.out) hkp (fun k_ hk_ hs_ => (hk_.2.1) hs_)) (fun k_ hk_ => ⟨hk_.1.1, hk_.1.2.1, hk_.1.2.2.1, hk_.1.2.2.2.1, hk_.1.2.2.2.2.1, hk_.1.2.2.2.2.2.1, hk_.1.2.2.2.2.2.2⟩)); replace HO_276003 := Aside0.mk (Kd.R_mono (ok' := fun k_ => some k_ ≠ (v247 : Value).ownBlock ∧ some k_ ≠ (.slice Ao121 t276.length co121 : Value).ownBlock ∧ some k_ ≠ (.slice Ao49 t308.length co49 : Value).ownBlock ∧ some k_ ≠ (.slice Ao50 t309.length co50 : Value).ownBlock ∧ some k_ ≠ (.slice Ao51 t310.length co51 : Value).ownBlock ∧ some k_ ≠ (.slice Ao60 t313.length co60 : Value).ownBlock ∧ some k_ ≠ (.slice Ao61 t314.length co61 : Value).ownBlock) (Kd.R_keptB (HO_276003.out) hkp (fun k_ hk_ hs_ => (hk_.2.1) hs_)) (fun k_ hk_ => ⟨hk_.1.1, hk_.1.2.1, hk_.1.2.2.1, hk_.1.2.2.2.1, hk_.1.2.2.2.2.1, hk_.1.2.2.2.2.2.1, hk_.1.2.2.2.2.2.2⟩)); replace HO_276004 := Aside0.mk (Kd.R_mono (ok' := fun k_ => some k_ ≠ (v247 : Value).ownBlock ∧ some k_ ≠ (.slice Ao121 t276.length co121 : Value).ownBlock ∧ some k_ ≠ (.slice Ao49 t308.length co49 : Value).ownBlock ∧ some k_ ≠ (.slice Ao50 t309.length co50 : Value).ownBlock ∧ some k_ ≠ (.slice Ao51 t310.length co51 : Value).ownBlock ∧ some k_ ≠ (.slice Ao59 t312.length co59 : Value).ownBlock ∧ some k_ ≠ (.slice Ao61 t314.length co61 : Value).ownBlock) (Kd.R_keptB (HO_276004.out) hkp (fun k_ hk_ hs_ => (hk_.2.1) hs_)) (fun k_ hk_ => ⟨hk_.1.1, hk_.1.2.1, hk_.1.2.2.1, hk_.1.2.2.2.1, hk_.1.2.2.2.2.1, hk_.1.2.2.2.2.2.1, hk_.1.2.2.2.2.2.2⟩)); replace HO_276005 := Aside0.mk (Kd.R_mono (ok' := fun k_ => some k_ ≠ (v247 : Value).ownBlock ∧ some k_ ≠ (.slice Ao121 t276.length co121 : Value).ownBlock ∧ some k_ ≠ (.slice Ao49 t308.length co49 : Value).ownBlock ∧ some k_ ≠ (.slice Ao50 t309.length co50 : Value).ownBlock ∧ some k_ ≠ (.slice Ao51 t310.length co51 : Value).ownBlock ∧ some k_ ≠ (.slice Ao59 t312.length co59 : Value).ownBlock ∧ some k_ ≠ (.slice Ao60 t313.length co60 : Value).ownBlock) (Kd.R_keptB (HO_276005.out) hkp (fun k_ hk_ hs_ => (hk_.2.1) hs_)) (fun k_ hk_ => ⟨hk_.1.1, hk_.1.2.1, hk_.1.2.2.1, hk_.1.2.2.2.1, hk_.1.2.2.2.2.1, hk_.1.2.2.2.2.2.1, hk_.1.2.2.2.2.2.2⟩)); replace BK218 := Aside0.mk (blk_kept (rBx6 BK218.out) hkp (fun hs_ => (fun e_ => (Kd.R_ne HO_10.out BK218.out (by decide)) e_) hs_)); replace BK219 := Aside0.mk (blk_kept (rBx6 BK219.out) hkp (fun hs_ => (fun e_ => (Kd.R_ne HO_10.out BK219.out (by decide)) e_) hs_)); replace BK262 := Aside0.mk (blk_kept (rBx6 BK262.out) hkp (fun hs_ => (fun e_ => (Kd.R_ne HO_10.out BK262.out (by decide)) e_) hs_)); replace BK275 := Aside0.mk (blk_kept (rBx6 BK275.out) hkp (fun hs_ => (fun e_ => (Kd.R_ne HO_10.out BK275.out (by decide)) e_) hs_)); replace HO_10 := Aside0.mk (Kd.R_reok rfl hy0 (fun k_ e_ => HO_10.out.1 k_ e_)); replace HB := Aside0.mk (hb); (try clear hb); (try clear hkp); (try clear hy0)) | ((with_reducible refine gate_callee (f := 38) rfl ?_); refine goesL_ (some 88) rfl rfl Try.func38 (by kernel_rfl) rfl #[.slice Ao121 t317.length co121, .int .i64 1] rfl (by (try simp only [List.map_toArray, List.map_cons, List.map_nil]); first | done | (rw [show t317.length = t276.length from (Kd.R_reads' HO_10.out).1.symm] <;> rfl) | rfl | (simp only [List.length_drop, List.length_take]; rfl)) ?_; (with_reducible refine (laws_heldIntS.calls kj92 _ _ t317 1 t318 _ ?side1 ?side2 A112.out).mono ?_); (case side1 => exact cRx6 HO_10.out); (case side2 => rw [show t317.length = t276.length from (Kd.R_reads' HO_10.out).1.symm]; exact (Kd.R_reads' HO_10.out).2.1); rintro e w' ⟨rfl, ⟨nd, rfl⟩⟩; refine ⟨_, rfl, ?_⟩))
               (try (rw [drewN_self w122]; generalize hq_ : World.drewN w122 _ = w122; have n0_ : Aside0 (Kd.R (Kd.int .i64) 3 w122 w.heap.size (fun k_ => some k_ ≠ (.slice Ao49 t308.length co49 : Value).ownBlock ∧ some k_ ≠ (.slice Ao50 t309.length co50 : Value).ownBlock ∧ some k_ ≠ (.slice Ao51 t310.length co51 : Value).ownBlock ∧ some k_ ≠ (.slice Ao59 t312.length co59 : Value).ownBlock ∧ some k_ ≠ (.slice Ao60 t313.length co60 : Value).ownBlock ∧ some k_ ≠ (.slice Ao61 t314.length co61 : Value).ownBlock ∧ some k_ ≠ (v247 : Value).ownBlock) (.slice Ao121 t276.length co121) t317) := ⟨by rw [← hq_]; exact (by exact rRx6 (mox6 HO_10.out))⟩; have n1_ : Aside0 (Kd.R (Kd.int .i64) 3 w122 w.heap.size (fun k_ => some k_ ≠ (.slice Ao121 t276.length co121 : Value).ownBlock ∧ some k_ ≠ (.slice Ao50 t309.length co50 : Value).ownBlock ∧ some k_ ≠ (.slice Ao51 t310.length co51 : Value).ownBlock ∧ some k_ ≠ (.slice Ao59 t312.length co59 : Value).ownBlock ∧ some k_ ≠ (.slice Ao60 t313.length co60 : Value).ownBlock ∧ some k_ ≠ (.slice Ao61 t314.length co61 : Value).ownBlock ∧ some k_ ≠ (v247 : Value).ownBlock) (.slice Ao49 t308.length co49) t308) := ⟨by rw [← hq_]; exact (by exact rRx6 (mox6 HO_263003.out))⟩; have n2_ : Aside0 (Kd.R (Kd.int .i64) 3 w122 w.heap.size (fun k_ => some k_ ≠ (.slice Ao121 t276.length co121 : Value).ownBlock ∧ some k_ ≠ (.slice Ao49 t308.length co49 : Value).ownBlock ∧ some k_ ≠ (.slice Ao51 t310.length co51 : Value).ownBlock ∧ some k_ ≠ (.slice Ao59 t312.length co59 : Value).ownBlock ∧ some k_ ≠ (.slice Ao60 t313.length co60 : Value).ownBlock ∧ some k_ ≠ (.slice Ao61 t314.length co61 : Value).ownBlock ∧ some k_ ≠ (v247 : Value).ownBlock) (.slice Ao50 t309.length co50) t309) := ⟨by rw [← hq_]; exact (by exact rRx6 (mox6 HO_263004.out))⟩; have n3_ : Aside0 (Kd.R (Kd.int .i64) 3 w122 w.heap.size (fun k_ => some k_ ≠ (.slice Ao121 t276.length co121 : Value).ownBlock ∧ some k_ ≠ (.slice Ao49 t308.length co49 : Value).ownBlock ∧ some k_ ≠ (.slice Ao50 t309.length co50 : Value).ownBlock ∧ some k_ ≠ (.slice Ao59 t312.length co59 : Value).ownBlock ∧ some k_ ≠ (.slice Ao60 t313.length co60 : Value).ownBlock ∧ some k_ ≠ (.slice Ao61 t314.length co61 : Value).ownBlock ∧ some k_ ≠ (v247 : Value).ownBlock) (.slice Ao51 t310.length co51) t310) := ⟨by rw [← hq_]; exact (by exact rRx6 (mox6 HO_263005.out))⟩; have n4_ : Aside0 (Kd.R (Kd.int .i64) 3 w122 w.heap.size (fun k_ => some k_ ≠ (.slice Ao121 t276.length co121 : Value).ownBlock ∧ some k_ ≠ (.slice Ao49 t308.length co49 : Value).ownBlock ∧ some k_ ≠ (.slice Ao50 t309.length co50 : Value).ownBlock ∧ some k_ ≠ (.slice Ao51 t310.length co51 : Value).ownBlock ∧ some k_ ≠ (.slice Ao60 t313.length co60 : Value).ownBlock ∧ some k_ ≠ (.slice Ao61 t314.length co61 : Value).ownBlock ∧ some k_ ≠ (v247 : Value).ownBlock) (.slice Ao59 t312.length co59) t312) := ⟨by rw [← hq_]; exact (by exact rRx6 (mox6 HO_276003.out))⟩; have n5_ : Aside0 (Kd.R (Kd.int .i64) 3 w122 w.heap.size (fun k_ => some k_ ≠ (.slice Ao121 t276.length co121 : Value).ownBlock ∧ some k_ ≠ (.slice Ao49 t308.length co49 : Value).ownBlock ∧ some k_ ≠ (.slice Ao50 t309.length co50 : Value).ownBlock ∧ some k_ ≠ (.slice Ao51 t310.length co51 : Value).ownBlock ∧ some k_ ≠ (.slice Ao59 t312.length co59 : Value).ownBlock ∧ some k_ ≠ (.slice Ao61 t314.length co61 : Value).ownBlock ∧ some k_ ≠ (v247 : Value).ownBlock) (.slice Ao60 t313.length co60) t313) := ⟨by rw [← hq_]; exact (by exact rRx6 (mox6 HO_276004.out))⟩; have n6_ : Aside0 (Kd.R (Kd.int .i64) 3 w122 w.heap.size (fun k_ => some k_ ≠ (.slice Ao121 t276.length co121 : Value).ownBlock ∧ some k_ ≠ (.slice Ao49 t308.length co49 : Value).ownBlock ∧ some k_ ≠ (.slice Ao50 t309.length co50 : Value).ownBlock ∧ some k_ ≠ (.slice Ao51 t310.length co51 : Value).ownBlock ∧ some k_ ≠ (.slice Ao59 t312.length co59 : Value).ownBlock ∧ some k_ ≠ (.slice Ao60 t313.length co60 : Value).ownBlock ∧ some k_ ≠ (v247 : Value).ownBlock) (.slice Ao61 t314.length co61) t314) := ⟨by rw [← hq_]; exact (by exact rRx6 (mox6 HO_276005.out))⟩; have n7_ : Aside0 (Kd.R (Kd.int .i64) 3 w122 w.heap.size (fun k_ => some k_ ≠ (.slice Ao121 t276.length co121 : Value).ownBlock ∧ some k_ ≠ (.slice Ao49 t308.length co49 : Value).ownBlock ∧ some k_ ≠ (.slice Ao50 t309.length co50 : Value).ownBlock ∧ some k_ ≠ (.slice Ao51 t310.length co51 : Value).ownBlock ∧ some k_ ≠ (.slice Ao59 t312.length co59 : Value).ownBlock ∧ some k_ ≠ (.slice Ao60 t313.length co60 : Value).ownBlock ∧ some k_ ≠ (.slice Ao61 t314.length co61 : Value).ownBlock) v247 t246) := ⟨by rw [← hq_]; exact (rRx6 HO_6.out)⟩; have n8_ : Aside0 (w122.heap[gb218]? = some (.cells #[.int .i64 a0_0, .int .i64 a0_1, .int .i64 a0_2, .slice A0_3 l0_3.length c0_3, .slice A0_4 l0_4.length c0_4, .slice A0_5 l0_5.length c0_5] 38 (0, 0))) := ⟨by rw [← hq_]; exact (rBx6 BK218.out)⟩; have n9_ : Aside0 (w122.heap[gb219]? = some (.cells #[.int .i64 a1_0, .int .i64 a1_1, .int .i64 a1_2, .slice A1_3 l1_3.length c1_3, .slice A1_4 l1_4.length c1_4, .slice A1_5 l1_5.length c1_5] 38 (0, 0))) := ⟨by rw [← hq_]; exact (rBx6 BK219.out)⟩; have n10_ : Aside0 (w122.heap[gb262]? = some (.cells #[.int .i64 t250, .int .i64 t251, .int .i64 t252, .slice Ao49 t308.length co49, .slice Ao50 t309.length co50, .slice Ao51 t310.length co51] 44 (0, 0))) := ⟨by rw [← hq_]; exact (rBx6 BK262.out)⟩; have n11_ : Aside0 (w122.heap[gb275]? = some (.cells #[.int .i64 t263, .int .i64 t264, .int .i64 t265, .slice Ao59 t312.length co59, .slice Ao60 t313.length co60, .slice Ao61 t314.length co61] 44 (0, 0))) := ⟨by rw [← hq_]; exact (rBx6 BK275.out)⟩; have n12_ : Aside0 (Below w.heap.size w w122) := ⟨by rw [← hq_]; exact (be4x6 HB.out GE218.out GE219.out GE262.out GE275.out)⟩; clear HO_10 HO_263003 HO_263004 HO_263005 HO_276003 HO_276004 HO_276005 HO_6 BK218 BK219 BK262 BK275 HB hq_; have HO_10 := n0_; have HO_263003 := n1_; have HO_263004 := n2_; have HO_263005 := n3_; have HO_276003 := n4_; have HO_276004 := n5_; have HO_276005 := n6_; have HO_6 := n7_; have BK218 := n8_; have BK219 := n9_; have BK262 := n10_; have BK275 := n11_; have HB := n12_; clear n0_ n1_ n2_ n3_ n4_ n5_ n6_ n7_ n8_ n9_ n10_ n11_ n12_))
               have n0_ := Aside0.mk (Kd.R_drew HO_6.out)
               have n1_ := Aside0.mk (Kd.R_drew HO_10.out)
               have n2_ := Aside0.mk (Kd.R_drew HO_263003.out)
               have n3_ := Aside0.mk (Kd.R_drew HO_263004.out)
               have n4_ := Aside0.mk (Kd.R_drew HO_263005.out)
               have n5_ := Aside0.mk (Kd.R_drew HO_276003.out)
               have n6_ := Aside0.mk (Kd.R_drew HO_276004.out)
               have n7_ := Aside0.mk (Kd.R_drew HO_276005.out)
               have n8_ := Aside0.mk (blk_drew BK218.out)
               have n9_ := Aside0.mk (blk_drew BK219.out)
               have n10_ := Aside0.mk (blk_drew BK262.out)
               have n11_ := Aside0.mk (blk_drew BK275.out)
               have n12_ := Aside0.mk (below_drew1 HB.out)
               clear HO_6
               clear HO_10
               clear HO_263003
               clear HO_263004
               clear HO_263005
               clear HO_276003
               clear HO_276004
               clear HO_276005
               clear BK218
               clear BK219
               clear BK262
               clear BK275
               clear HB
               have HO_6 := n0_
               have HO_10 := n1_
               have HO_263003 := n2_
               have HO_263004 := n3_
               have HO_263005 := n4_
               have HO_276003 := n5_
               have HO_276004 := n6_
               have HO_276005 := n7_
               have BK218 := n8_
               have BK219 := n9_
               have BK262 := n10_
               have BK275 := n11_
               have HB := n12_
               clear n0_ n1_ n2_ n3_ n4_ n5_ n6_ n7_ n8_ n9_ n10_ n11_ n12_
               refine start_ (n := 10) (S := fun w' => w'.cell? ⟨gb218, 0, none⟩ = some (.int .i64 a0_0) ∧ w'.cell? ⟨gb218, 1, none⟩ = some (.int .i64 a0_1) ∧ w'.cell? ⟨gb218, 2, none⟩ = some (.int .i64 a0_2) ∧ w'.cell? ⟨gb218, 3, none⟩ = some (.slice A0_3 l0_3.length c0_3) ∧ w'.cell? ⟨gb218, 4, none⟩ = some (.slice A0_4 l0_4.length c0_4) ∧ w'.cell? ⟨gb218, 5, none⟩ = some (.slice A0_5 l0_5.length c0_5) ∧ w'.cell? ⟨gb219, 0, none⟩ = some (.int .i64 a1_0) ∧ w'.cell? ⟨gb219, 1, none⟩ = some (.int .i64 a1_1) ∧ w'.cell? ⟨gb219, 2, none⟩ = some (.int .i64 a1_2) ∧ w'.cell? ⟨gb219, 3, none⟩ = some (.slice A1_3 l1_3.length c1_3) ∧ w'.cell? ⟨gb219, 4, none⟩ = some (.slice A1_4 l1_4.length c1_4) ∧ w'.cell? ⟨gb219, 5, none⟩ = some (.slice A1_5 l1_5.length c1_5)) (ds := []) #[false, false, false, false, false, false, false, false, false, false] (by kernel_rfl) rfl rfl (ca6x6 BK218.out (cc6x6 BK219.out)) (fun hHeld => ?_); refine with_tabW laws_FnExactChangedBlocks.tab31 laws_FnExactChangedBlocks.bits31 (fun HT_ HW_ => ?_)
               generalize w122.drew = w123 at HO_6 HO_10 HO_263003 HO_263004 HO_263005 HO_276003 HO_276004 HO_276005 BK218 BK219 BK262 BK275 HB hHeld ⊢
               refine take_ (i := 0) (N := some 95) (v := ?_) (a' := ?_) #[true, false, false, false, false, false, false, false, false, false] rfl rfl (take_ofW HT_.out HW_.out (by kernel_rfl)) (fun _ _ _ h => h) (Or.inl ⟨by rfl, ?_⟩) hHeld ?_ ?_
               rotate_left
               ·rintro w' ⟨s0, s1, s2, s3, s4, s5, s6, s7, s8, s9, s10, s11⟩
                go_simp
                with_reducible rfl
               rotate_left
               ·simp only [Act.put, List.setIfInBounds_toArray, List.set_cons_zero, List.set_cons_succ, i64_w, i32_w]
                rfl
               refine take_ (i := 2) (N := some 97) (v := ?_) (a' := ?_) #[true, false, true, false, false, false, false, false, false, false] rfl rfl (take_ofW HT_.out HW_.out (by kernel_rfl)) (fun _ _ _ h => h) (Or.inl ⟨by rfl, ?_⟩) hHeld ?_ ?_
               rotate_left
               ·rintro w' ⟨s0, s1, s2, s3, s4, s5, s6, s7, s8, s9, s10, s11⟩
                go_simp
                with_reducible rfl
               rotate_left
               ·simp only [Act.put, List.setIfInBounds_toArray, List.set_cons_zero, List.set_cons_succ, i64_w, i32_w]
                rfl
               refine one_ (i := 1) (N := some 96) #[true, true, true, false, false, false, false, false, false, false] rfl rfl (one_of HT_.out (by kernel_rfl)) (by decide) (fun K hK => ?_)
               refine goes_ Try.func24 (by kernel_rfl) rfl #[.agg #[.int .i64 a0_0, .int .i64 a0_1, .int .i64 a0_2, .slice A0_3 l0_3.length c0_3, .slice A0_4 l0_4.length c0_4, .slice A0_5 l0_5.length c0_5]] (by rfl) rfl rfl mpx6 ?_
               with_reducible refine (laws_toModel.calls kj92 a0_0 a0_1 a0_2 _ _ l0_3 _ _ l0_4 _ _ l0_5 t319 t320 t321 t322 t325 t328 _ ?side1 ?side2 ?side3 ?side4 ?side5 ?side6 A117.out).mono ?_
               (case side1 => exact rCx6 (Kd.C_below HR0_3.out HB.out))
               (case side2 => exact HC0_3.out)
               (case side3 => exact rCx6 (Kd.C_below HR0_4.out HB.out))
               (case side4 => exact HC0_4.out)
               (case side5 => exact rCx6 (Kd.C_below HR0_5.out HB.out))
               (case side6 => exact HC0_5.out)
               rintro e w124 ⟨v323, v326, v329, rfl, ho0, ho1, ho2, hb⟩
               refine ⟨_, rfl, ?_⟩
               have n0_ := Aside0.mk (kp3x6 (rRx6 HO_6.out) hb ho0 ho1 ho2)
               have n1_ := Aside0.mk (kp3x6 (rRx6 HO_10.out) hb ho0 ho1 ho2)
               have n2_ := Aside0.mk (kp3x6 (rRx6 HO_263003.out) hb ho0 ho1 ho2)
               have n3_ := Aside0.mk (kp3x6 (rRx6 HO_263004.out) hb ho0 ho1 ho2)
               have n4_ := Aside0.mk (kp3x6 (rRx6 HO_263005.out) hb ho0 ho1 ho2)
               have n5_ := Aside0.mk (kp3x6 (rRx6 HO_276003.out) hb ho0 ho1 ho2)
               have n6_ := Aside0.mk (kp3x6 (rRx6 HO_276004.out) hb ho0 ho1 ho2)
               have n7_ := Aside0.mk (kp3x6 (rRx6 HO_276005.out) hb ho0 ho1 ho2)
               have n8_ := Aside0.mk (Kd.R_lower (nwx6 (nwx6 (nwx6 (nwx6 (nwx6 (nwx6 (nwx6 (nwx6 ho0 (rRx6 HO_6.out)) (rRx6 HO_10.out)) (rRx6 HO_263003.out)) (rRx6 HO_263004.out)) (rRx6 HO_263005.out)) (rRx6 HO_276003.out)) (rRx6 HO_276004.out)) (rRx6 HO_276005.out)) (below_size (be4x6 HB.out GE218.out GE219.out GE262.out GE275.out)))
               have n9_ := Aside0.mk (Kd.R_lower (nwx6 (nwx6 (nwx6 (nwx6 (nwx6 (nwx6 (nwx6 (nwx6 ho1 (rRx6 HO_6.out)) (rRx6 HO_10.out)) (rRx6 HO_263003.out)) (rRx6 HO_263004.out)) (rRx6 HO_263005.out)) (rRx6 HO_276003.out)) (rRx6 HO_276004.out)) (rRx6 HO_276005.out)) (below_size (be4x6 HB.out GE218.out GE219.out GE262.out GE275.out)))
               have n10_ := Aside0.mk (Kd.R_lower (nwx6 (nwx6 (nwx6 (nwx6 (nwx6 (nwx6 (nwx6 (nwx6 ho2 (rRx6 HO_6.out)) (rRx6 HO_10.out)) (rRx6 HO_263003.out)) (rRx6 HO_263004.out)) (rRx6 HO_263005.out)) (rRx6 HO_276003.out)) (rRx6 HO_276004.out)) (rRx6 HO_276005.out)) (below_size (be4x6 HB.out GE218.out GE219.out GE262.out GE275.out)))
               have n11_ := Aside0.mk (blk_below (g := gb218) (o := .cells #[.int .i64 a0_0, .int .i64 a0_1, .int .i64 a0_2, .slice A0_3 l0_3.length c0_3, .slice A0_4 l0_4.length c0_4, .slice A0_5 l0_5.length c0_5] 38 (0, 0)) (rBx6 BK218.out) hb)
               have n12_ := Aside0.mk (blk_below (g := gb219) (o := .cells #[.int .i64 a1_0, .int .i64 a1_1, .int .i64 a1_2, .slice A1_3 l1_3.length c1_3, .slice A1_4 l1_4.length c1_4, .slice A1_5 l1_5.length c1_5] 38 (0, 0)) (rBx6 BK219.out) hb)
               have n13_ := Aside0.mk (blk_below (g := gb262) (o := .cells #[.int .i64 t250, .int .i64 t251, .int .i64 t252, .slice Ao49 t308.length co49, .slice Ao50 t309.length co50, .slice Ao51 t310.length co51] 44 (0, 0)) (rBx6 BK262.out) hb)
               have n14_ := Aside0.mk (blk_below (g := gb275) (o := .cells #[.int .i64 t263, .int .i64 t264, .int .i64 t265, .slice Ao59 t312.length co59, .slice Ao60 t313.length co60, .slice Ao61 t314.length co61] 44 (0, 0)) (rBx6 BK275.out) hb)
               have n15_ := Aside0.mk (below_step (be4x6 HB.out GE218.out GE219.out GE262.out GE275.out) hb)
               clear HO_6
               clear HO_10
               clear HO_263003
               clear HO_263004
               clear HO_263005
               clear HO_276003
               clear HO_276004
               clear HO_276005
               clear BK218
               clear BK219
               clear BK262
               clear BK275
               clear HB
               have HO_6 := n0_
               have HO_10 := n1_
               have HO_263003 := n2_
               have HO_263004 := n3_
               have HO_263005 := n4_
               have HO_276003 := n5_
               have HO_276004 := n6_
               have HO_276005 := n7_
               have HO324 := n8_
               have HO327 := n9_
               have HO330 := n10_
               have BK218 := n11_
               have BK219 := n12_
               have BK262 := n13_
               have BK275 := n14_
               have HB := n15_
               clear n0_ n1_ n2_ n3_ n4_ n5_ n6_ n7_ n8_ n9_ n10_ n11_ n12_ n13_ n14_ n15_
               (try clear hb)
               (try clear hb2)
               (try clear hk)
               (try clear hi)
               (try clear ho0)
               (try clear ho1)
               (try clear ho2)
               refine hK.out _ _ (ca6x6 BK218.out (cc6x6 BK219.out)) (fun hHeld => ?_)
               clear hK K
               refine norm_ (a' := ?_) ?_ ?_
               rotate_left
               ·show Act.put _ (some 96) _ = _
                simp only [Act.put, List.setIfInBounds_toArray, List.set_cons_zero, List.set_cons_succ, i64_w, i32_w]
                rfl
               refine one_ (i := 3) (N := some 98) #[true, true, true, true, false, false, false, false, false, false] rfl rfl (one_of HT_.out (by kernel_rfl)) (by decide) (fun K hK => ?_)
               refine goes_ Try.func24 (by kernel_rfl) rfl #[.agg #[.int .i64 a1_0, .int .i64 a1_1, .int .i64 a1_2, .slice A1_3 l1_3.length c1_3, .slice A1_4 l1_4.length c1_4, .slice A1_5 l1_5.length c1_5]] (by rfl) rfl rfl mpx6 ?_
               with_reducible refine (laws_toModel.calls kj92 a1_0 a1_1 a1_2 _ _ l1_3 _ _ l1_4 _ _ l1_5 t331 t332 t333 t334 t337 t340 _ ?side1 ?side2 ?side3 ?side4 ?side5 ?side6 A118.out).mono ?_
               (case side1 => exact rCx6 (Kd.C_below HR1_3.out HB.out))
               (case side2 => exact HC1_3.out)
               (case side3 => exact rCx6 (Kd.C_below HR1_4.out HB.out))
               (case side4 => exact HC1_4.out)
               (case side5 => exact rCx6 (Kd.C_below HR1_5.out HB.out))
               (case side6 => exact HC1_5.out)
               rintro e w125 ⟨v335, v338, v341, rfl, ho0, ho1, ho2, hb⟩
               refine ⟨_, rfl, ?_⟩
               have n0_ := Aside0.mk (kp3x6 (rRx6 HO_6.out) hb ho0 ho1 ho2)
               have n1_ := Aside0.mk (kp3x6 (rRx6 HO_10.out) hb ho0 ho1 ho2)
               have n2_ := Aside0.mk (kp3x6 (rRx6 HO_263003.out) hb ho0 ho1 ho2)
               have n3_ := Aside0.mk (kp3x6 (rRx6 HO_263004.out) hb ho0 ho1 ho2)
               have n4_ := Aside0.mk (kp3x6 (rRx6 HO_263005.out) hb ho0 ho1 ho2)
               have n5_ := Aside0.mk (kp3x6 (rRx6 HO_276003.out) hb ho0 ho1 ho2)
               have n6_ := Aside0.mk (kp3x6 (rRx6 HO_276004.out) hb ho0 ho1 ho2)
               have n7_ := Aside0.mk (kp3x6 (rRx6 HO_276005.out) hb ho0 ho1 ho2)
               have n8_ := Aside0.mk (kp3x6 (rRx6 HO324.out) hb ho0 ho1 ho2)
               have n9_ := Aside0.mk (kp3x6 (rRx6 HO327.out) hb ho0 ho1 ho2)
               have n10_ := Aside0.mk (kp3x6 (rRx6 HO330.out) hb ho0 ho1 ho2)
               have n11_ := Aside0.mk (Kd.R_lower (nwx6 (nwx6 (nwx6 (nwx6 (nwx6 (nwx6 (nwx6 (nwx6 (nwx6 (nwx6 (nwx6 ho0 (rRx6 HO_6.out)) (rRx6 HO_10.out)) (rRx6 HO_263003.out)) (rRx6 HO_263004.out)) (rRx6 HO_263005.out)) (rRx6 HO_276003.out)) (rRx6 HO_276004.out)) (rRx6 HO_276005.out)) (rRx6 HO324.out)) (rRx6 HO327.out)) (rRx6 HO330.out)) (below_size (be4x6 HB.out GE218.out GE219.out GE262.out GE275.out)))
               have n12_ := Aside0.mk (Kd.R_lower (nwx6 (nwx6 (nwx6 (nwx6 (nwx6 (nwx6 (nwx6 (nwx6 (nwx6 (nwx6 (nwx6 ho1 (rRx6 HO_6.out)) (rRx6 HO_10.out)) (rRx6 HO_263003.out)) (rRx6 HO_263004.out)) (rRx6 HO_263005.out)) (rRx6 HO_276003.out)) (rRx6 HO_276004.out)) (rRx6 HO_276005.out)) (rRx6 HO324.out)) (rRx6 HO327.out)) (rRx6 HO330.out)) (below_size (be4x6 HB.out GE218.out GE219.out GE262.out GE275.out)))
               have n13_ := Aside0.mk (Kd.R_lower (nwx6 (nwx6 (nwx6 (nwx6 (nwx6 (nwx6 (nwx6 (nwx6 (nwx6 (nwx6 (nwx6 ho2 (rRx6 HO_6.out)) (rRx6 HO_10.out)) (rRx6 HO_263003.out)) (rRx6 HO_263004.out)) (rRx6 HO_263005.out)) (rRx6 HO_276003.out)) (rRx6 HO_276004.out)) (rRx6 HO_276005.out)) (rRx6 HO324.out)) (rRx6 HO327.out)) (rRx6 HO330.out)) (below_size (be4x6 HB.out GE218.out GE219.out GE262.out GE275.out)))
               have n14_ := Aside0.mk (blk_below (g := gb218) (o := .cells #[.int .i64 a0_0, .int .i64 a0_1, .int .i64 a0_2, .slice A0_3 l0_3.length c0_3, .slice A0_4 l0_4.length c0_4, .slice A0_5 l0_5.length c0_5] 38 (0, 0)) (rBx6 BK218.out) hb)
               have n15_ := Aside0.mk (blk_below (g := gb219) (o := .cells #[.int .i64 a1_0, .int .i64 a1_1, .int .i64 a1_2, .slice A1_3 l1_3.length c1_3, .slice A1_4 l1_4.length c1_4, .slice A1_5 l1_5.length c1_5] 38 (0, 0)) (rBx6 BK219.out) hb)
               have n16_ := Aside0.mk (blk_below (g := gb262) (o := .cells #[.int .i64 t250, .int .i64 t251, .int .i64 t252, .slice Ao49 t308.length co49, .slice Ao50 t309.length co50, .slice Ao51 t310.length co51] 44 (0, 0)) (rBx6 BK262.out) hb)
               have n17_ := Aside0.mk (blk_below (g := gb275) (o := .cells #[.int .i64 t263, .int .i64 t264, .int .i64 t265, .slice Ao59 t312.length co59, .slice Ao60 t313.length co60, .slice Ao61 t314.length co61] 44 (0, 0)) (rBx6 BK275.out) hb)
               have n18_ := Aside0.mk (below_step (be4x6 HB.out GE218.out GE219.out GE262.out GE275.out) hb)
               clear HO_6
               clear HO_10
               clear HO_263003
               clear HO_263004
               clear HO_263005
               clear HO_276003
               clear HO_276004
               clear HO_276005
               clear HO324
               clear HO327
               clear HO330
               clear BK218
               clear BK219
               clear BK262
               clear BK275
               clear HB
               have HO_6 := n0_
               have HO_10 := n1_
               have HO_263003 := n2_
               have HO_263004 := n3_
               have HO_263005 := n4_
               have HO_276003 := n5_
               have HO_276004 := n6_
               have HO_276005 := n7_
               have HO324 := n8_
               have HO327 := n9_
               have HO330 := n10_
               have HO336 := n11_
               have HO339 := n12_
               have HO342 := n13_
               have BK218 := n14_
               have BK219 := n15_
               have BK262 := n16_
               have BK275 := n17_
               have HB := n18_
               clear n0_ n1_ n2_ n3_ n4_ n5_ n6_ n7_ n8_ n9_ n10_ n11_ n12_ n13_ n14_ n15_ n16_ n17_ n18_
               (try clear hb)
               (try clear hb2)
               (try clear hk)
               (try clear hi)
               (try clear ho0)
               (try clear ho1)
               (try clear ho2)
               obtain ⟨Ao126, co126, eo126⟩ := Kd.R_slice HO324.out
               (first | subst eo126 | (injection eo126 with f1_ f2_ f3_; have f4_ := f1_.symm; have f5_ := f3_.symm; clear f1_ f2_ f3_; subst f4_; subst f5_))
               obtain ⟨Ao127, co127, eo127⟩ := Kd.R_slice HO327.out
               (first | subst eo127 | (injection eo127 with f1_ f2_ f3_; have f4_ := f1_.symm; have f5_ := f3_.symm; clear f1_ f2_ f3_; subst f4_; subst f5_))
               obtain ⟨Ao128, co128, eo128⟩ := Kd.R_slice HO330.out
               (first | subst eo128 | (injection eo128 with f1_ f2_ f3_; have f4_ := f1_.symm; have f5_ := f3_.symm; clear f1_ f2_ f3_; subst f4_; subst f5_))
               obtain ⟨Ao129, co129, eo129⟩ := Kd.R_slice HO336.out
               (first | subst eo129 | (injection eo129 with f1_ f2_ f3_; have f4_ := f1_.symm; have f5_ := f3_.symm; clear f1_ f2_ f3_; subst f4_; subst f5_))
               obtain ⟨Ao130, co130, eo130⟩ := Kd.R_slice HO339.out
               (first | subst eo130 | (injection eo130 with f1_ f2_ f3_; have f4_ := f1_.symm; have f5_ := f3_.symm; clear f1_ f2_ f3_; subst f4_; subst f5_))
               obtain ⟨Ao131, co131, eo131⟩ := Kd.R_slice HO342.out
               (first | subst eo131 | (injection eo131 with f1_ f2_ f3_; have f4_ := f1_.symm; have f5_ := f3_.symm; clear f1_ f2_ f3_; subst f4_; subst f5_))
               refine hK.out _ _ (ca6x6 BK218.out (cc6x6 BK219.out)) (fun hHeld => ?_)
               clear hK K
               refine norm_ (a' := ?_) ?_ ?_
               rotate_left
               ·show Act.put _ (some 98) _ = _
                simp only [Act.put, List.setIfInBounds_toArray, List.set_cons_zero, List.set_cons_succ, i64_w, i32_w]
                rfl
               refine one_ (i := 4) (N := some 99) #[true, true, true, true, true, false, false, false, false, false] rfl rfl (one_of HT_.out (by kernel_rfl)) (by decide) (fun K hK => ?_)
               refine goes_ Try.func34 (by kernel_rfl) rfl #[.agg #[.int .i64 t319, .int .i64 t320, .int .i64 t321, .slice Ao126 t322.length co126, .slice Ao127 t325.length co127, .slice Ao128 t328.length co128], .agg #[.int .i64 t331, .int .i64 t332, .int .i64 t333, .slice Ao129 t334.length co129, .slice Ao130 t337.length co130, .slice Ao131 t340.length co131]] (by rfl) rfl rfl mpx6 ?_
               with_reducible refine (impl_ChangedBlocks.calls kj92 t319 t320 t321 _ _ t322 _ _ t325 _ _ t328 t331 t332 t333 _ _ t334 _ _ t337 _ _ t340 t343 t346 _ ?side1 ?side2 ?side3 ?side4 ?side5 ?side6 ?side7 ?side8 ?side9 ?side10 ?side11 ?side12 A119.out).mono ?_
               (case side1 => exact cRx6 HO324.out)
               (case side2 => exact (Kd.R_reads' HO324.out).2.1)
               (case side3 => exact cRx6 HO327.out)
               (case side4 => exact (Kd.R_reads' HO327.out).2.1)
               (case side5 => exact cRx6 HO330.out)
               (case side6 => exact (Kd.R_reads' HO330.out).2.1)
               (case side7 => exact cRx6 HO336.out)
               (case side8 => exact (Kd.R_reads' HO336.out).2.1)
               (case side9 => exact cRx6 HO339.out)
               (case side10 => exact (Kd.R_reads' HO339.out).2.1)
               (case side11 => exact cRx6 HO342.out)
               (case side12 => exact (Kd.R_reads' HO342.out).2.1)
               rintro e w132 ⟨v344, rfl, ho0, hb⟩
               refine ⟨_, rfl, ?_⟩
               have n0_ := Aside0.mk (Kd.R_elder' (rRx6 HO_6.out) (Kd.R_base ho0) hb)
               have n1_ := Aside0.mk (Kd.R_elder' (rRx6 HO_10.out) (Kd.R_base ho0) hb)
               have n2_ := Aside0.mk (Kd.R_elder' (rRx6 HO_263003.out) (Kd.R_base ho0) hb)
               have n3_ := Aside0.mk (Kd.R_elder' (rRx6 HO_263004.out) (Kd.R_base ho0) hb)
               have n4_ := Aside0.mk (Kd.R_elder' (rRx6 HO_263005.out) (Kd.R_base ho0) hb)
               have n5_ := Aside0.mk (Kd.R_elder' (rRx6 HO_276003.out) (Kd.R_base ho0) hb)
               have n6_ := Aside0.mk (Kd.R_elder' (rRx6 HO_276004.out) (Kd.R_base ho0) hb)
               have n7_ := Aside0.mk (Kd.R_elder' (rRx6 HO_276005.out) (Kd.R_base ho0) hb)
               have n8_ := Aside0.mk (Kd.R_elder' (rRx6 HO324.out) (Kd.R_base ho0) hb)
               have n9_ := Aside0.mk (Kd.R_elder' (rRx6 HO327.out) (Kd.R_base ho0) hb)
               have n10_ := Aside0.mk (Kd.R_elder' (rRx6 HO330.out) (Kd.R_base ho0) hb)
               have n11_ := Aside0.mk (Kd.R_elder' (rRx6 HO336.out) (Kd.R_base ho0) hb)
               have n12_ := Aside0.mk (Kd.R_elder' (rRx6 HO339.out) (Kd.R_base ho0) hb)
               have n13_ := Aside0.mk (Kd.R_elder' (rRx6 HO342.out) (Kd.R_base ho0) hb)
               have n14_ := Aside0.mk (Kd.R_lower (nwx6 (nwx6 (nwx6 (nwx6 (nwx6 (nwx6 (nwx6 (nwx6 (nwx6 (nwx6 (nwx6 (nwx6 (nwx6 (nwx6 ho0 (rRx6 HO_6.out)) (rRx6 HO_10.out)) (rRx6 HO_263003.out)) (rRx6 HO_263004.out)) (rRx6 HO_263005.out)) (rRx6 HO_276003.out)) (rRx6 HO_276004.out)) (rRx6 HO_276005.out)) (rRx6 HO324.out)) (rRx6 HO327.out)) (rRx6 HO330.out)) (rRx6 HO336.out)) (rRx6 HO339.out)) (rRx6 HO342.out)) (below_size (be4x6 HB.out GE218.out GE219.out GE262.out GE275.out)))
               have n15_ := Aside0.mk (blk_below (g := gb218) (o := .cells #[.int .i64 a0_0, .int .i64 a0_1, .int .i64 a0_2, .slice A0_3 l0_3.length c0_3, .slice A0_4 l0_4.length c0_4, .slice A0_5 l0_5.length c0_5] 38 (0, 0)) (rBx6 BK218.out) hb)
               have n16_ := Aside0.mk (blk_below (g := gb219) (o := .cells #[.int .i64 a1_0, .int .i64 a1_1, .int .i64 a1_2, .slice A1_3 l1_3.length c1_3, .slice A1_4 l1_4.length c1_4, .slice A1_5 l1_5.length c1_5] 38 (0, 0)) (rBx6 BK219.out) hb)
               have n17_ := Aside0.mk (blk_below (g := gb262) (o := .cells #[.int .i64 t250, .int .i64 t251, .int .i64 t252, .slice Ao49 t308.length co49, .slice Ao50 t309.length co50, .slice Ao51 t310.length co51] 44 (0, 0)) (rBx6 BK262.out) hb)
               have n18_ := Aside0.mk (blk_below (g := gb275) (o := .cells #[.int .i64 t263, .int .i64 t264, .int .i64 t265, .slice Ao59 t312.length co59, .slice Ao60 t313.length co60, .slice Ao61 t314.length co61] 44 (0, 0)) (rBx6 BK275.out) hb)
               have n19_ := Aside0.mk (below_step (be4x6 HB.out GE218.out GE219.out GE262.out GE275.out) hb)
               clear HO_6
               clear HO_10
               clear HO_263003
               clear HO_263004
               clear HO_263005
               clear HO_276003
               clear HO_276004
               clear HO_276005
               clear HO324
               clear HO327
               clear HO330
               clear HO336
               clear HO339
               clear HO342
               clear BK218
               clear BK219
               clear BK262
               clear BK275
               clear HB
               have HO_6 := n0_
               have HO_10 := n1_
               have HO_263003 := n2_
               have HO_263004 := n3_
               have HO_263005 := n4_
               have HO_276003 := n5_
               have HO_276004 := n6_
               have HO_276005 := n7_
               have HO324 := n8_
               have HO327 := n9_
               have HO330 := n10_
               have HO336 := n11_
               have HO339 := n12_
               have HO342 := n13_
               have HO345 := n14_
               have BK218 := n15_
               have BK219 := n16_
               have BK262 := n17_
               have BK275 := n18_
               have HB := n19_
               clear n0_ n1_ n2_ n3_ n4_ n5_ n6_ n7_ n8_ n9_ n10_ n11_ n12_ n13_ n14_ n15_ n16_ n17_ n18_ n19_
               (try clear hb)
               (try clear hb2)
               (try clear hk)
               (try clear hi)
               (try clear ho0)
               refine hK.out _ _ (ca6x6 BK218.out (cc6x6 BK219.out)) (fun hHeld => ?_)
               clear hK K
               refine norm_ (a' := ?_) ?_ ?_
               rotate_left
               ·show Act.put _ (some 99) _ = _
                simp only [Act.put, List.setIfInBounds_toArray, List.set_cons_zero, List.set_cons_succ, i64_w, i32_w]
                rfl
               refine pure_ (i := 5) (N := some 94) (v := ?_) (a' := ?_) #[true, true, true, true, true, true, false, false, false, false] rfl rfl (any_of HT_.out (by kernel_rfl)) (fun _ _ _ h => h) (Or.inl ⟨by rfl, ?_⟩) ?_ ?_
               rotate_left
               ·intro w'
                go_simp
                with_reducible rfl
               rotate_left
               ·simp only [Act.put, List.setIfInBounds_toArray, List.set_cons_zero, List.set_cons_succ, i64_w, i32_w]
                rfl
               refine pure_ (i := 6) (N := some 100) (v := ?_) (a' := ?_) #[true, true, true, true, true, true, true, false, false, false] rfl rfl (any_of HT_.out (by kernel_rfl)) (fun _ _ _ h => h) (Or.inl ⟨by rfl, ?_⟩) ?_ ?_
               rotate_left
               ·intro w'
                go_simp
                with_reducible rfl
               rotate_left
               ·simp only [Act.put, List.setIfInBounds_toArray, List.set_cons_zero, List.set_cons_succ, i64_w, i32_w]
                rfl
               refine pure_ (i := 7) (N := some 101) (v := ?_) (a' := ?_) #[true, true, true, true, true, true, true, true, false, false] rfl rfl (any_of HT_.out (by kernel_rfl)) (fun _ _ _ h => h) (Or.inl ⟨by rfl, ?_⟩) ?_ ?_
               rotate_left
               ·intro w'
                go_simp
                with_reducible rfl
               rotate_left
               ·simp only [Act.put, List.setIfInBounds_toArray, List.set_cons_zero, List.set_cons_succ, i64_w, i32_w]
                rfl
               refine pure_ (i := 8) (N := some 15) (v := ?_) (a' := ?_) #[true, true, true, true, true, true, true, true, true, false] rfl rfl (any_of HT_.out (by kernel_rfl)) (fun _ _ _ h => h) (Or.inl ⟨by rfl, ?_⟩) ?_ ?_
               rotate_left
               ·intro w'
                go_simp
                with_reducible rfl
               rotate_left
               ·simp only [Act.put, List.setIfInBounds_toArray, List.set_cons_zero, List.set_cons_succ, i64_w, i32_w]
                rfl
               refine pure_ (i := 9) (N := some 16) (v := ?_) (a' := ?_) #[true, true, true, true, true, true, true, true, true, true] rfl rfl (any_of HT_.out (by kernel_rfl)) (fun _ _ _ h => h) (Or.inl ⟨by rfl, ?_⟩) ?_ ?_
               rotate_left
               ·intro w'
                go_simp
                with_reducible rfl
               rotate_left
               ·simp only [Act.put, List.setIfInBounds_toArray, List.set_cons_zero, List.set_cons_succ, i64_w, i32_w]
                rfl
               refine done_ (done_of HT_.out (by kernel_rfl)) ?_
               go_upto_region 32 with (fail)
               go_cut [110] (fun v110 wc => ∃ (kq : Nat) (x110_119 : Bool), v110 = .bool x110_119 ∧ Aside0 (laws_FnExactChangedBlocks.j4 kq t317 t316 x110_119 = some r) ∧ Aside0 (kq ≤ kj92) ∧ Aside0 (Kd.R (Kd.int .i64) 3 wc w.heap.size (fun k_ => some k_ ≠ ((.slice Ao49 t308.length co49) : Value).ownBlock ∧ some k_ ≠ ((.slice Ao50 t309.length co50) : Value).ownBlock ∧ some k_ ≠ ((.slice Ao51 t310.length co51) : Value).ownBlock ∧ some k_ ≠ ((.slice Ao59 t312.length co59) : Value).ownBlock ∧ some k_ ≠ ((.slice Ao60 t313.length co60) : Value).ownBlock ∧ some k_ ≠ ((.slice Ao61 t314.length co61) : Value).ownBlock) (.slice Ao121 t276.length co121) t317) ∧ Aside0 (Kd.R (Kd.int .i64) 3 wc w.heap.size (fun k_ => some k_ ≠ ((.slice Ao121 t276.length co121) : Value).ownBlock ∧ some k_ ≠ ((.slice Ao50 t309.length co50) : Value).ownBlock ∧ some k_ ≠ ((.slice Ao51 t310.length co51) : Value).ownBlock ∧ some k_ ≠ ((.slice Ao59 t312.length co59) : Value).ownBlock ∧ some k_ ≠ ((.slice Ao60 t313.length co60) : Value).ownBlock ∧ some k_ ≠ ((.slice Ao61 t314.length co61) : Value).ownBlock) (.slice Ao49 t308.length co49) t308) ∧ Aside0 (Kd.R (Kd.int .i64) 3 wc w.heap.size (fun k_ => some k_ ≠ ((.slice Ao121 t276.length co121) : Value).ownBlock ∧ some k_ ≠ ((.slice Ao49 t308.length co49) : Value).ownBlock ∧ some k_ ≠ ((.slice Ao51 t310.length co51) : Value).ownBlock ∧ some k_ ≠ ((.slice Ao59 t312.length co59) : Value).ownBlock ∧ some k_ ≠ ((.slice Ao60 t313.length co60) : Value).ownBlock ∧ some k_ ≠ ((.slice Ao61 t314.length co61) : Value).ownBlock) (.slice Ao50 t309.length co50) t309) ∧ Aside0 (Kd.R (Kd.int .i64) 3 wc w.heap.size (fun k_ => some k_ ≠ ((.slice Ao121 t276.length co121) : Value).ownBlock ∧ some k_ ≠ ((.slice Ao49 t308.length co49) : Value).ownBlock ∧ some k_ ≠ ((.slice Ao50 t309.length co50) : Value).ownBlock ∧ some k_ ≠ ((.slice Ao59 t312.length co59) : Value).ownBlock ∧ some k_ ≠ ((.slice Ao60 t313.length co60) : Value).ownBlock ∧ some k_ ≠ ((.slice Ao61 t314.length co61) : Value).ownBlock) (.slice Ao51 t310.length co51) t310) ∧ Aside0 (Kd.R (Kd.int .i64) 3 wc w.heap.size (fun k_ => some k_ ≠ ((.slice Ao121 t276.length co121) : Value).ownBlock ∧ some k_ ≠ ((.slice Ao49 t308.length co49) : Value).ownBlock ∧ some k_ ≠ ((.slice Ao50 t309.length co50) : Value).ownBlock ∧ some k_ ≠ ((.slice Ao51 t310.length co51) : Value).ownBlock ∧ some k_ ≠ ((.slice Ao60 t313.length co60) : Value).ownBlock ∧ some k_ ≠ ((.slice Ao61 t314.length co61) : Value).ownBlock) (.slice Ao59 t312.length co59) t312) ∧ Aside0 (Kd.R (Kd.int .i64) 3 wc w.heap.size (fun k_ => some k_ ≠ ((.slice Ao121 t276.length co121) : Value).ownBlock ∧ some k_ ≠ ((.slice Ao49 t308.length co49) : Value).ownBlock ∧ some k_ ≠ ((.slice Ao50 t309.length co50) : Value).ownBlock ∧ some k_ ≠ ((.slice Ao51 t310.length co51) : Value).ownBlock ∧ some k_ ≠ ((.slice Ao59 t312.length co59) : Value).ownBlock ∧ some k_ ≠ ((.slice Ao61 t314.length co61) : Value).ownBlock) (.slice Ao60 t313.length co60) t313) ∧ Aside0 (Kd.R (Kd.int .i64) 3 wc w.heap.size (fun k_ => some k_ ≠ ((.slice Ao121 t276.length co121) : Value).ownBlock ∧ some k_ ≠ ((.slice Ao49 t308.length co49) : Value).ownBlock ∧ some k_ ≠ ((.slice Ao50 t309.length co50) : Value).ownBlock ∧ some k_ ≠ ((.slice Ao51 t310.length co51) : Value).ownBlock ∧ some k_ ≠ ((.slice Ao59 t312.length co59) : Value).ownBlock ∧ some k_ ≠ ((.slice Ao60 t313.length co60) : Value).ownBlock) (.slice Ao61 t314.length co61) t314) ∧ Aside0 (wc.heap[gb218]? = some (.cells #[.int .i64 a0_0, .int .i64 a0_1, .int .i64 a0_2, (.slice A0_3 l0_3.length c0_3), (.slice A0_4 l0_4.length c0_4), (.slice A0_5 l0_5.length c0_5)] 38 (0, 0))) ∧ Aside0 (wc.heap[gb219]? = some (.cells #[.int .i64 a1_0, .int .i64 a1_1, .int .i64 a1_2, (.slice A1_3 l1_3.length c1_3), (.slice A1_4 l1_4.length c1_4), (.slice A1_5 l1_5.length c1_5)] 38 (0, 0))) ∧ Aside0 (wc.heap[gb262]? = some (.cells #[.int .i64 t250, .int .i64 t251, .int .i64 t252, (.slice Ao49 t308.length co49), (.slice Ao50 t309.length co50), (.slice Ao51 t310.length co51)] 44 (0, 0))) ∧ Aside0 (wc.heap[gb275]? = some (.cells #[.int .i64 t263, .int .i64 t264, .int .i64 t265, (.slice Ao59 t312.length co59), (.slice Ao60 t313.length co60), (.slice Ao61 t314.length co61)] 44 (0, 0))) ∧ Aside0 (Below w.heap.size w wc))
               case first =>
                have H := HC120.out
                clear HC120
                replace H := Option.bind_eq_some_iff.mp H
                obtain ⟨t347, A1330, H⟩ := H
                have A133 := Aside0.mk A1330
                clear A1330
                by_cases c134 : t347 = true
                ·subst c134
                 have H1 : (laws_FnExactChangedBlocks.j4 kj92 t317 t316 (t346 != t249)) = some r := by rw [if_pos rfl] at H; exact H
                 clear H
                 have H := H1
                 clear H1
                 have H' := Aside0.mk H
                 clear H
                 obtain ⟨Ao135, co135, eo135⟩ := Kd.R_slice HO345.out
                 subst eo135
                 obtain ⟨Ao136, co136, eo136⟩ := Kd.R_slice HO_6.out
                 subst eo136
                 go_wp2_with (first | ((with_reducible refine gate_callee (f := 35) rfl ?_); refine goesL_ (some 104) rfl rfl Try.func35 (by kernel_rfl) rfl #[.slice Ao135 t343.length co135, .slice Ao136 t246.length co136] rfl mpx6 ?_; (with_reducible refine (laws_eqIntS.calls kj92 _ _ t343 _ _ t246 true _ ?side1 ?side2 ?side3 ?side4 A133.out).mono ?_); (case side1 => exact cRx6 HO345.out); (case side2 => exact (Kd.R_reads' HO345.out).2.1); (case side3 => exact cRx6 HO_6.out); (case side4 => exact (Kd.R_reads' HO_6.out).2.1); rintro e w' ⟨rfl, ⟨nd, rfl⟩⟩; refine ⟨_, rfl, ?_⟩))
                 go_meet
                 case rel => exact ⟨_, ((t346 != t249)), (by first | rfl | (simp; done) | (simp [*]; done)), H', ⟨by have := HJ24.out; have := HJ72.out; have := HJ82.out; have := HJ92.out; first | omega | exact Nat.le_refl _⟩, ⟨by (try simp only [hl263003_92, hl263004_92, hl263005_92, hl276003_92, hl276004_92, hl276005_92]); exact rRx6 (mox6 HO_10.out)⟩, ⟨by (try simp only [hl263003_92, hl263004_92, hl263005_92, hl276003_92, hl276004_92, hl276005_92]); exact rRx6 (mox6 HO_263003.out)⟩, ⟨by (try simp only [hl263003_92, hl263004_92, hl263005_92, hl276003_92, hl276004_92, hl276005_92]); exact rRx6 (mox6 HO_263004.out)⟩, ⟨by (try simp only [hl263003_92, hl263004_92, hl263005_92, hl276003_92, hl276004_92, hl276005_92]); exact rRx6 (mox6 HO_263005.out)⟩, ⟨by (try simp only [hl263003_92, hl263004_92, hl263005_92, hl276003_92, hl276004_92, hl276005_92]); exact rRx6 (mox6 HO_276003.out)⟩, ⟨by (try simp only [hl263003_92, hl263004_92, hl263005_92, hl276003_92, hl276004_92, hl276005_92]); exact rRx6 (mox6 HO_276004.out)⟩, ⟨by (try simp only [hl263003_92, hl263004_92, hl263005_92, hl276003_92, hl276004_92, hl276005_92]); exact rRx6 (mox6 HO_276005.out)⟩, ⟨by (try simp only [hl263003_92, hl263004_92, hl263005_92, hl276003_92, hl276004_92, hl276005_92]); (with_reducible repeat (first | refine blk_drewN ?_ _ | refine blk_drew ?_ | refine blk_alloc ?_ _)); exact BK218.out⟩, ⟨by (try simp only [hl263003_92, hl263004_92, hl263005_92, hl276003_92, hl276004_92, hl276005_92]); (with_reducible repeat (first | refine blk_drewN ?_ _ | refine blk_drew ?_ | refine blk_alloc ?_ _)); exact BK219.out⟩, ⟨by (try simp only [hl263003_92, hl263004_92, hl263005_92, hl276003_92, hl276004_92, hl276005_92]); (with_reducible repeat (first | refine blk_drewN ?_ _ | refine blk_drew ?_ | refine blk_alloc ?_ _)); exact BK262.out⟩, ⟨by (try simp only [hl263003_92, hl263004_92, hl263005_92, hl276003_92, hl276004_92, hl276005_92]); (with_reducible repeat (first | refine blk_drewN ?_ _ | refine blk_drew ?_ | refine blk_alloc ?_ _)); exact BK275.out⟩, ⟨be4x6 HB.out GE218.out GE219.out GE262.out GE275.out⟩⟩
                ·replace c134 := Bool.eq_false_iff.mpr c134
                 subst c134
                 have H1 : (laws_FnExactChangedBlocks.j4 kj92 t317 t316 true) = some r := by rw [if_neg (show ¬ (false = true) by decide)] at H; exact H
                 clear H
                 have H := H1
                 clear H1
                 have H' := Aside0.mk H
                 clear H
                 obtain ⟨Ao137, co137, eo137⟩ := Kd.R_slice HO345.out
                 subst eo137
                 obtain ⟨Ao138, co138, eo138⟩ := Kd.R_slice HO_6.out
                 subst eo138
                 go_wp2_with (first | ((with_reducible refine gate_callee (f := 35) rfl ?_); refine goesL_ (some 104) rfl rfl Try.func35 (by kernel_rfl) rfl #[.slice Ao137 t343.length co137, .slice Ao138 t246.length co138] rfl mpx6 ?_; (with_reducible refine (laws_eqIntS.calls kj92 _ _ t343 _ _ t246 false _ ?side1 ?side2 ?side3 ?side4 A133.out).mono ?_); (case side1 => exact cRx6 HO345.out); (case side2 => exact (Kd.R_reads' HO345.out).2.1); (case side3 => exact cRx6 HO_6.out); (case side4 => exact (Kd.R_reads' HO_6.out).2.1); rintro e w' ⟨rfl, ⟨nd, rfl⟩⟩; refine ⟨_, rfl, ?_⟩))
                 go_meet
                 case rel => exact ⟨_, (true), (by first | rfl | (simp; done) | (simp [*]; done)), H', ⟨by have := HJ24.out; have := HJ72.out; have := HJ82.out; have := HJ92.out; first | omega | exact Nat.le_refl _⟩, ⟨by (try simp only [hl263003_92, hl263004_92, hl263005_92, hl276003_92, hl276004_92, hl276005_92]); exact rRx6 (mox6 HO_10.out)⟩, ⟨by (try simp only [hl263003_92, hl263004_92, hl263005_92, hl276003_92, hl276004_92, hl276005_92]); exact rRx6 (mox6 HO_263003.out)⟩, ⟨by (try simp only [hl263003_92, hl263004_92, hl263005_92, hl276003_92, hl276004_92, hl276005_92]); exact rRx6 (mox6 HO_263004.out)⟩, ⟨by (try simp only [hl263003_92, hl263004_92, hl263005_92, hl276003_92, hl276004_92, hl276005_92]); exact rRx6 (mox6 HO_263005.out)⟩, ⟨by (try simp only [hl263003_92, hl263004_92, hl263005_92, hl276003_92, hl276004_92, hl276005_92]); exact rRx6 (mox6 HO_276003.out)⟩, ⟨by (try simp only [hl263003_92, hl263004_92, hl263005_92, hl276003_92, hl276004_92, hl276005_92]); exact rRx6 (mox6 HO_276004.out)⟩, ⟨by (try simp only [hl263003_92, hl263004_92, hl263005_92, hl276003_92, hl276004_92, hl276005_92]); exact rRx6 (mox6 HO_276005.out)⟩, ⟨by (try simp only [hl263003_92, hl263004_92, hl263005_92, hl276003_92, hl276004_92, hl276005_92]); (with_reducible repeat (first | refine blk_drewN ?_ _ | refine blk_drew ?_ | refine blk_alloc ?_ _)); exact BK218.out⟩, ⟨by (try simp only [hl263003_92, hl263004_92, hl263005_92, hl276003_92, hl276004_92, hl276005_92]); (with_reducible repeat (first | refine blk_drewN ?_ _ | refine blk_drew ?_ | refine blk_alloc ?_ _)); exact BK219.out⟩, ⟨by (try simp only [hl263003_92, hl263004_92, hl263005_92, hl276003_92, hl276004_92, hl276005_92]); (with_reducible repeat (first | refine blk_drewN ?_ _ | refine blk_drew ?_ | refine blk_alloc ?_ _)); exact BK262.out⟩, ⟨by (try simp only [hl263003_92, hl263004_92, hl263005_92, hl276003_92, hl276004_92, hl276005_92]); (with_reducible repeat (first | refine blk_drewN ?_ _ | refine blk_drew ?_ | refine blk_alloc ?_ _)); exact BK275.out⟩, ⟨be4x6 HB.out GE218.out GE219.out GE262.out GE275.out⟩⟩
               case rest =>
                clear HC120
                try clear c110; try clear c113; try clear c113b0; try clear c116; try clear c116b0; try clear c116b1; try clear c134
                obtain ⟨kq, x110_119, rfl, HA, HJ119, HO_10, HO_263003, HO_263004, HO_263005, HO_276003, HO_276004, HO_276005, BK218, BK219, BK262, BK275, HB⟩ := hcut
                have hl10_119 := (Kd.R_reads' HO_10.out).1
                rw [hl10_119] at HO_10
                (try simp only [hl10_119])
                (try simp only [hl10_119] at BK218)
                (try simp only [hl10_119] at BK219)
                (try simp only [hl10_119] at BK262)
                (try simp only [hl10_119] at BK275)
                (try simp only [hl10_119] at HO_263003)
                (try simp only [hl10_119] at HO_263004)
                (try simp only [hl10_119] at HO_263005)
                (try simp only [hl10_119] at HO_276003)
                (try simp only [hl10_119] at HO_276004)
                (try simp only [hl10_119] at HO_276005)
                cases kq with
                | zero => exact absurd HA.out (by simp [laws_FnExactChangedBlocks.j4])
                | succ kj119 =>
                 have H := HA.out
                 clear HA
                 simp only [laws_FnExactChangedBlocks.j4] at H
                 by_cases c139 : x110_119 = true
                 ·subst c139
                  have H1 : (some false) = some r := by rw [if_pos rfl] at H; exact H
                  clear H
                  have H := H1
                  clear H1
                  obtain rfl := Option.some.inj H
                  go_wp2
                  go_ret
                  exact ⟨by first | rfl | (simp [errW_none, errW_some] <;> rfl) | (simp [*, errW_none, errW_some] <;> rfl), be4x6 HB.out GE218.out GE219.out GE262.out GE275.out⟩
                 ·replace c139 := Bool.eq_false_iff.mpr c139
                  subst c139
                  have H1 : ((laws_heldIntS.f kj119 t317 1).bind fun t348 => (if t348 < 0 then (some false) else (if t348 = t316 then (some true) else (some false)))) = some r := by rw [if_neg (show ¬ (false = true) by decide)] at H; exact H
                  clear H
                  have H := H1
                  clear H1
                  replace H := Option.bind_eq_some_iff.mp H
                  obtain ⟨t348, A1400, H⟩ := H
                  have A140 := Aside0.mk A1400
                  clear A1400
                  by_cases c141 : t348 < 0
                  ·rw [if_pos c141] at H
                   have c141b0 : decide (t348 < 0) = true := decide_eq_true c141
                   clear c141
                   obtain rfl := Option.some.inj H
                   go_wp2_with (first | ((with_reducible refine gate_callee (f := 38) rfl ?_); refine goesL_ (some 113) rfl rfl Try.func38 (by kernel_rfl) rfl #[.slice Ao121 t317.length co121, .int .i64 1] rfl mpx6 ?_; (with_reducible refine (laws_heldIntS.calls kj119 _ _ t317 1 t348 _ ?side1 ?side2 A140.out).mono ?_); (case side1 => exact cRx6 HO_10.out); (case side2 => exact (Kd.R_reads' HO_10.out).2.1); rintro e w' ⟨rfl, ⟨nd, rfl⟩⟩; refine ⟨_, rfl, ?_⟩))
                   go_ret
                   exact ⟨by first | rfl | (simp [errW_none, errW_some] <;> rfl) | (simp [*, errW_none, errW_some] <;> rfl), be4x6 HB.out GE218.out GE219.out GE262.out GE275.out⟩
                  ·rw [if_neg c141] at H
                   have c141b0 : decide (t348 < 0) = false := decide_eq_false c141
                   clear c141
                   by_cases c142 : t348 = t316
                   ·rw [if_pos c142] at H
                    have c142b0 : (t348 == t316) = true := beq_iff_eq.mpr c142
                    have c142b1 : (t348 != t316) = false := bne_eq_false_iff_eq.mpr c142
                    clear c142
                    obtain rfl := Option.some.inj H
                    go_wp2_with (first | ((with_reducible refine gate_callee (f := 38) rfl ?_); refine goesL_ (some 113) rfl rfl Try.func38 (by kernel_rfl) rfl #[.slice Ao121 t317.length co121, .int .i64 1] rfl mpx6 ?_; (with_reducible refine (laws_heldIntS.calls kj119 _ _ t317 1 t348 _ ?side1 ?side2 A140.out).mono ?_); (case side1 => exact cRx6 HO_10.out); (case side2 => exact (Kd.R_reads' HO_10.out).2.1); rintro e w' ⟨rfl, ⟨nd, rfl⟩⟩; refine ⟨_, rfl, ?_⟩))
                    go_ret
                    exact ⟨by first | rfl | (simp [errW_none, errW_some] <;> rfl) | (simp [*, errW_none, errW_some] <;> rfl), be4x6 HB.out GE218.out GE219.out GE262.out GE275.out⟩
                   ·rw [if_neg c142] at H
                    have c142b0 : (t348 == t316) = false := beq_eq_false_iff_ne.mpr c142
                    have c142b1 : (t348 != t316) = true := bne_iff_ne.mpr c142
                    obtain rfl := Option.some.inj H
                    go_wp2_with (first | ((with_reducible refine gate_callee (f := 38) rfl ?_); refine goesL_ (some 113) rfl rfl Try.func38 (by kernel_rfl) rfl #[.slice Ao121 t317.length co121, .int .i64 1] rfl mpx6 ?_; (with_reducible refine (laws_heldIntS.calls kj119 _ _ t317 1 t348 _ ?side1 ?side2 A140.out).mono ?_); (case side1 => exact cRx6 HO_10.out); (case side2 => exact (Kd.R_reads' HO_10.out).2.1); rintro e w' ⟨rfl, ⟨nd, rfl⟩⟩; refine ⟨_, rfl, ?_⟩))
                    go_ret
                    exact ⟨by first | rfl | (simp [errW_none, errW_some] <;> rfl) | (simp [*, errW_none, errW_some] <;> rfl), be4x6 HB.out GE218.out GE219.out GE262.out GE275.out⟩
              ·rw [if_neg c116] at H
               have c116b0 : (t318 == t316) = false := beq_eq_false_iff_ne.mpr c116
               have c116b1 : (t318 != t316) = true := bne_iff_ne.mpr c116
               obtain rfl := Option.some.inj H
               obtain ⟨Ao143, co143, eo143⟩ := Kd.R_slice HO_10.out
               subst eo143
               go_wp2_with (first | ((with_reducible refine gate_callee (f := 37) rfl ?_); refine goesL_ (some 85) rfl rfl Try.func37 (by kernel_rfl) rfl #[.slice Ao143 t276.length co143, .int .i64 1] rfl mpx6 ?_; (with_reducible refine (laws_markIntS.calls kj92 (fun k_ => some k_ = (.slice Ao143 t276.length co143 : Value).ownBlock) (.slice Ao143 t276.length co143) t276 1 t316 t317 w _ ?side1 ?side2 A111.out).mono ?_); (case side1 => exact be4x6 HB.out GE218.out GE219.out GE262.out GE275.out); (case side2 => exact Kd.R_tight rfl HO_10.out); rintro e w144 ⟨rfl, hy0, hb, hkp⟩; refine ⟨_, rfl, ?_⟩; replace HO_6 := Aside0.mk (Kd.R_mono (ok' := fun k_ => some k_ ≠ (.slice Ao143 t276.length co143 : Value).ownBlock ∧ some k_ ≠ (.slice Ao49 t308.length co49 : Value).ownBlock ∧ some k_ ≠ (.slice Ao50 t309.length co50 : Value).ownBlock ∧ some k_ ≠ (.slice Ao51 t310.length co51 : Value).ownBlock ∧ some k_ ≠ (.slice Ao59 t312.length co59 : Value).ownBlock ∧ some k_ ≠ (.slice Ao60 t313.length co60 : Value).ownBlock ∧ some k_ ≠ (.slice Ao61 t314.length co61 : Value).ownBlock) (Kd.R_keptB (HO_6.out) hkp (fun k_ hk_ hs_ => (hk_.1) hs_)) (fun k_ hk_ => ⟨hk_.1.1, hk_.1.2.1, hk_.1.2.2.1, hk_.1.2.2.2.1, hk_.1.2.2.2.2.1, hk_.1.2.2.2.2.2.1, hk_.1.2.2.2.2.2.2⟩)); replace HO_263003 := Aside0.mk (Kd.R_mono (ok' := fun k_ => some k_ ≠ (v247 : Value).ownBlock ∧ some k_ ≠ (.slice Ao143 t276.length co143 : Value).ownBlock ∧ some k_ ≠ (.slice Ao50 t309.length co50 : Value).ownBlock ∧ some k_ ≠ (.slice Ao51 t310.length co51 : Value).ownBlock ∧ some k_ ≠ (.slice Ao59 t312.length co59 : Value).ownBlock ∧ some k_ ≠ (.slice Ao60 t313.length co60 : Value).ownBlock ∧ some k_ ≠ (.slice Ao61 t314.length co61 : Value).ownBlock) (Kd.R_keptB (HO_263003.out) hkp (fun k_ hk_ hs_ => (hk_.2.1) hs_)) (fun k_ hk_ => ⟨hk_.1.1, hk_.1.2.1, hk_.1.2.2.1, hk_.1.2.2.2.1, hk_.1.2.2.2.2.1, hk_.1.2.2.2.2.2.1, hk_.1.2.2.2.2.2.2⟩)); replace HO_263004 := Aside0.mk (Kd.R_mono (ok' := fun k_ => some k_ ≠ (v247 : Value).ownBlock ∧ some k_ ≠ (.slice Ao143 t276.length co143 : Value).ownBlock ∧ some k_ ≠ (.slice Ao49 t308.length co49 : Value).ownBlock ∧ some k_ ≠ (.slice Ao51 t310.length co51 : Value).ownBlock ∧ some k_ ≠ (.slice Ao59 t312.length co59 : Value).ownBlock ∧ some k_ ≠ (.slice Ao60 t313.length co60 : Value).ownBlock ∧ some k_ ≠ (.slice Ao61 t314.length co61 : Value).ownBlock) (Kd.R_keptB (HO_263004.out) hkp (fun k_ hk_ hs_ => (hk_.2.1) hs_)) (fun k_ hk_ => ⟨hk_.1.1, hk_.1.2.1, hk_.1.2.2.1, hk_.1.2.2.2.1, hk_.1.2.2.2.2.1, hk_.1.2.2.2.2.2.1, hk_.1.2.2.2.2.2.2⟩)); replace HO_263005 := Aside0.mk (Kd.R_mono (ok' := fun k_ => some k_ ≠ (v247 : Value).ownBlock ∧ some k_ ≠ (.slice Ao143 t276.length co143 : Value).ownBlock ∧ some k_ ≠ (.slice Ao49 t308.length co49 : Value).ownBlock ∧ some k_ ≠ (.slice Ao50 t309.length co50 : Value).ownBlock ∧ some k_ ≠ (.slice Ao59 t312.length co59 : Value).ownBlock ∧ some k_ ≠ (.slice Ao60 t313.length co60 : Value).ownBlock ∧ some k_ ≠ (.slice Ao61 t314.length co61 : Value).ownBlock) (Kd.R_keptB (HO_263005.out) hkp (fun k_ hk_ hs_ => (hk_.2.1) hs_)) (fun k_ hk_ => ⟨hk_.1.1, hk_.1.2.1, hk_.1.2.2.1, hk_.1.2.2.2.1, hk_.1.2.2.2.2.1, hk_.1.2.2.2.2.2.1, hk_.1.2.2.2.2.2.2⟩)); replace HO_276003 := Aside0.mk (Kd.R_mono (ok' := fun k_ => some k_ ≠ (v247 : Value).ownBlock ∧ some k_ ≠ (.slice Ao143 t276.length co143 : Value).ownBlock ∧ some k_ ≠ (.slice Ao49 t308.length co49 : Value).ownBlock ∧ some k_ ≠ (.slice Ao50 t309.length co50 : Value).ownBlock ∧ some k_ ≠ (.slice Ao51 t310.length co51 : Value).ownBlock ∧ some k_ ≠ (.slice Ao60 t313.length co60 : Value).ownBlock ∧ some k_ ≠ (.slice Ao61 t314.length co61 : Value).ownBlock) (Kd.R_keptB (HO_276003.out) hkp (fun k_ hk_ hs_ => (hk_.2.1) hs_)) (fun k_ hk_ => ⟨hk_.1.1, hk_.1.2.1, hk_.1.2.2.1, hk_.1.2.2.2.1, hk_.1.2.2.2.2.1, hk_.1.2.2.2.2.2.1, hk_.1.2.2.2.2.2.2⟩)); replace HO_276004 := Aside0.mk (Kd.R_mono (ok' := fun k_ => some k_ ≠ (v247 : Value).ownBlock ∧ some k_ ≠ (.slice Ao143 t276.length co143 : Value).ownBlock ∧ some k_ ≠ (.slice Ao49 t308.length co49 : Value).ownBlock ∧ some k_ ≠ (.slice Ao50 t309.length co50 : Value).ownBlock ∧ some k_ ≠ (.slice Ao51 t310.length co51 : Value).ownBlock ∧ some k_ ≠ (.slice Ao59 t312.length co59 : Value).ownBlock ∧ some k_ ≠ (.slice Ao61 t314.length co61 : Value).ownBlock) (Kd.R_keptB (HO_276004.out) hkp (fun k_ hk_ hs_ => (hk_.2.1) hs_)) (fun k_ hk_ => ⟨hk_.1.1, hk_.1.2.1, hk_.1.2.2.1, hk_.1.2.2.2.1, hk_.1.2.2.2.2.1, hk_.1.2.2.2.2.2.1, hk_.1.2.2.2.2.2.2⟩)); replace HO_276005 := Aside0.mk (Kd.R_mono (ok' := fun k_ => some k_ ≠ (v247 : Value).ownBlock ∧ some k_ ≠ (.slice Ao143 t276.length co143 : Value).ownBlock ∧ some k_ ≠ (.slice Ao49 t308.length co49 : Value).ownBlock ∧ some k_ ≠ (.slice Ao50 t309.length co50 : Value).ownBlock ∧ some k_ ≠ (.slice Ao51 t310.length co51 : Value).ownBlock ∧ some k_ ≠ (.slice Ao59 t312.length co59 : Value).ownBlock ∧ some k_ ≠ (.slice Ao60 t313.length co60 : Value).ownBlock) (Kd.R_keptB (HO_276005.out) hkp (fun k_ hk_ hs_ => (hk_.2.1) hs_)) (fun k_ hk_ => ⟨hk_.1.1, hk_.1.2.1, hk_.1.2.2.1, hk_.1.2.2.2.1, hk_.1.2.2.2.2.1, hk_.1.2.2.2.2.2.1, hk_.1.2.2.2.2.2.2⟩)); replace BK218 := Aside0.mk (blk_kept (rBx6 BK218.out) hkp (fun hs_ => (fun e_ => (Kd.R_ne HO_10.out BK218.out (by decide)) e_) hs_)); replace BK219 := Aside0.mk (blk_kept (rBx6 BK219.out) hkp (fun hs_ => (fun e_ => (Kd.R_ne HO_10.out BK219.out (by decide)) e_) hs_)); replace BK262 := Aside0.mk (blk_kept (rBx6 BK262.out) hkp (fun hs_ => (fun e_ => (Kd.R_ne HO_10.out BK262.out (by decide)) e_) hs_)); replace BK275 := Aside0.mk (blk_kept (rBx6 BK275.out) hkp (fun hs_ => (fun e_ => (Kd.R_ne HO_10.out BK275.out (by decide)) e_) hs_)); replace HO_10 := Aside0.mk (Kd.R_reok rfl hy0 (fun k_ e_ => HO_10.out.1 k_ e_)); replace HB := Aside0.mk (hb); (try clear hb); (try clear hkp); (try clear hy0)) | ((with_reducible refine gate_callee (f := 38) rfl ?_); refine goesL_ (some 88) rfl rfl Try.func38 (by kernel_rfl) rfl #[.slice Ao143 t317.length co143, .int .i64 1] rfl (by (try simp only [List.map_toArray, List.map_cons, List.map_nil]); first | done | (rw [show t317.length = t276.length from (Kd.R_reads' HO_10.out).1.symm] <;> rfl) | rfl | (simp only [List.length_drop, List.length_take]; rfl)) ?_; (with_reducible refine (laws_heldIntS.calls kj92 _ _ t317 1 t318 _ ?side1 ?side2 A112.out).mono ?_); (case side1 => exact cRx6 HO_10.out); (case side2 => rw [show t317.length = t276.length from (Kd.R_reads' HO_10.out).1.symm]; exact (Kd.R_reads' HO_10.out).2.1); rintro e w' ⟨rfl, ⟨nd, rfl⟩⟩; refine ⟨_, rfl, ?_⟩))
               go_ret
               exact ⟨by first | rfl | (simp [errW_none, errW_some] <;> rfl) | (simp [*, errW_none, errW_some] <;> rfl), be4x6 HB.out GE218.out GE219.out GE262.out GE275.out⟩

end Go.Proofs.Ytoaglacdklmafaa.PFnExactChangedBlocks
