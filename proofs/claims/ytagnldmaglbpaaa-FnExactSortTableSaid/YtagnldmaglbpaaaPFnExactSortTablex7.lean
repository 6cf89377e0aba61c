/- This text is this session's own, not the print's: programs (wip/squeeze.py and others) made it out of what print.sh, or wip/ownprint.py, had written (BYTES set higher), its facts said by short words. -/
import Derived.Test.YtagnldmaglbpaaaPFnExactSortTablex0
import Derived.Test.YtagnldmaglbpaaaPFnExactSortTablex2
import Derived.Test.YtagnldmaglbpaaaPFnExactSortTablex3
import Derived.Test.YtagnldmaglbpaaaPFnExactSortTablex4
import Derived.Test.YtagnldmaglbpaaaPFnExactSortTablex6
import Derived.Test.YtagnldmaglbpaaaPFnExactSortTablewx7
namespace Go.Proofs.Ytagnldmaglbpaaa.PFnExactSortTable
open Go.RowKit Go.Proofs.YtagnldmaglbpaaaW.PrintWords Go.Proofs.YtagnldmaglbpaaaW.PrintLast Go.Proofs.YtagnldmaglbpaaaW.PrintMore
attribute [local go_sem] max2_int min2_int max_two min_two max_three min_three max_four min_four   -- for this text's walks alone
set_option linter.unusedVariables false
set_option linter.unusedSimpArgs false

/-! ### laws_FnExactSortTable: function 5 -/
mutual
def laws_FnExactSortTable.j0 : Nat → Int → List Int → Bool → List Int → Bool → Bool → Int → Int → Int → List Int → List Int → List Int → Int → Int → Int → List Int → List Int → List Int → Int → Int → Int → List Int → List Int → List Int → Int → Int → Int → List Int → List Int → List Int → Option (Bool)
 | 0, _, _, _, _, _, _, _, _, _, _, _, _, _, _, _, _, _, _, _, _, _, _, _, _, _, _, _, _, _, _ => none
 | k + 1, x2, x8, x9, x12, x13, x57, x221000, x221001, x221002, x221003, x221004, x221005, x222000, x222001, x222002, x222003, x222004, x222005, x265000, x265001, x265002, x265003, x265004, x265005, x278000, x278001, x278002, x278003, x278004, x278005 => if x57 = true then (some false) else ((laws_toModel.f k x221000 x221001 x221002 x221003 x221004 x221005).bind fun bt283 => ((laws_eqModel.f k x265000 x265001 x265002 x265003 x265004 x265005 bt283.1 bt283.2.1 bt283.2.2.1 bt283.2.2.2.1 bt283.2.2.2.2.1 bt283.2.2.2.2.2).bind fun t295 => (if t295 = true then (laws_FnExactSortTable.j1 k x2 x8 x9 x12 x13 x221000 x221001 x221002 x221003 x221004 x221005 x222000 x222001 x222002 x222003 x222004 x222005 x265000 x265001 x265002 x265003 x265004 x265005 x278000 x278001 x278002 x278003 x278004 x278005) else (some false))))
def laws_FnExactSortTable.j1 : Nat → Int → List Int → Bool → List Int → Bool → Int → Int → Int → List Int → List Int → List Int → Int → Int → Int → List Int → List Int → List Int → Int → Int → Int → List Int → List Int → List Int → Int → Int → Int → List Int → List Int → List Int → Option (Bool)
 | 0, _, _, _, _, _, _, _, _, _, _, _, _, _, _, _, _, _, _, _, _, _, _, _, _, _, _, _, _, _ => none
 | k + 1, x2, x8, x9, x12, x13, x221000, x221001, x221002, x221003, x221004, x221005, x222000, x222001, x222002, x222003, x222004, x222005, x265000, x265001, x265002, x265003, x265004, x265005, x278000, x278001, x278002, x278003, x278004, x278005 => (laws_toModel.f k x222000 x222001 x222002 x222003 x222004 x222005).bind fun bt296 => ((laws_eqModel.f k x278000 x278001 x278002 x278003 x278004 x278005 bt296.1 bt296.2.1 bt296.2.2.1 bt296.2.2.2.1 bt296.2.2.2.2.1 bt296.2.2.2.2.2).bind fun t308 => (if t308 = true then (laws_FnExactSortTable.j2 k x2 x8 x9 x12 x13 x221000 x221001 x221002 x221003 x221004 x221005 x222000 x222001 x222002 x222003 x222004 x222005 x265000 x265001 x265002 x265003 x265004 x265005 x278000 x278001 x278002 x278003 x278004 x278005) else (some false)))
def laws_FnExactSortTable.j2 : Nat → Int → List Int → Bool → List Int → Bool → Int → Int → Int → List Int → List Int → List Int → Int → Int → Int → List Int → List Int → List Int → Int → Int → Int → List Int → List Int → List Int → Int → Int → Int → List Int → List Int → List Int → Option (Bool)
 | 0, _, _, _, _, _, _, _, _, _, _, _, _, _, _, _, _, _, _, _, _, _, _, _, _, _, _, _, _, _ => none
 | k + 1, x2, x8, x9, x12, x13, x221000, x221001, x221002, x221003, x221004, x221005, x222000, x222001, x222002, x222003, x222004, x222005, x265000, x265001, x265002, x265003, x265004, x265005, x278000, x278001, x278002, x278003, x278004, x278005 => (laws_markModel.f k x265000 x265001 x265002 x265003 x265004 x265005 1).bind fun bt309 => ((laws_markModel.f k x278000 x278001 x278002 x278003 x278004 x278005 bt309.1).bind fun bt313 => (if bt313.1 < 0 then (laws_FnExactSortTable.j3 k x2 x8 x9 x12 true x221000 x221001 x221002 x221003 x221004 x221005 x222000 x222001 x222002 x222003 x222004 x222005) else ((laws_eqIntS.f k x12 x8).bind fun t317 => (if t317 = true then (laws_FnExactSortTable.j3 k x2 x8 x9 x12 (x13 != x9) x221000 x221001 x221002 x221003 x221004 x221005 x222000 x222001 x222002 x222003 x222004 x222005) else (laws_FnExactSortTable.j3 k x2 x8 x9 x12 true x221000 x221001 x221002 x221003 x221004 x221005 x222000 x222001 x222002 x222003 x222004 x222005)))))
def laws_FnExactSortTable.j3 : Nat → Int → List Int → Bool → List Int → Bool → Int → Int → Int → List Int → List Int → List Int → Int → Int → Int → List Int → List Int → List Int → Option (Bool)
 | 0, _, _, _, _, _, _, _, _, _, _, _, _, _, _, _, _, _ => none
 | k + 1, x2, x8, x9, x12, x86, x221000, x221001, x221002, x221003, x221004, x221005, x222000, x222001, x222002, x222003, x222004, x222005 => if x86 = true then (some false) else ((laws_markIntS.f k x12 1).bind fun bt318 => ((laws_heldIntS.f k bt318.2 1).bind fun t320 => (if t320 < 0 then (some false) else (if t320 = bt318.1 then ((laws_toModel.f k x221000 x221001 x221002 x221003 x221004 x221005).bind fun bt321 => ((laws_toModel.f k x222000 x222001 x222002 x222003 x222004 x222005).bind fun bt333 => ((impl_SortTable.f k bt321.1 bt321.2.1 bt321.2.2.1 bt321.2.2.2.1 bt321.2.2.2.2.1 bt321.2.2.2.2.2 bt333.1 bt333.2.1 bt333.2.2.1 bt333.2.2.2.1 bt333.2.2.2.2.1 bt333.2.2.2.2.2 x2).bind fun bt345 => ((laws_eqIntS.f k bt345.1 x8).bind fun t349 => (if t349 = true then (laws_FnExactSortTable.j4 k bt318.2 bt318.1 (bt345.2 != x9)) else (laws_FnExactSortTable.j4 k bt318.2 bt318.1 true)))))) else (some false)))))
def laws_FnExactSortTable.j4 : Nat → List Int → Int → Bool → Option (Bool)
 | 0, _, _, _ => none
 | k + 1, x12, x15, x115 => if x115 = true then (some false) else ((laws_heldIntS.f k x12 1).bind fun t350 => (if t350 < 0 then (some false) else (if t350 = x15 then (some true) else (some false))))
end
def laws_FnExactSortTable.f (k : Nat) (a0_0 : Int) (a0_1 : Int) (a0_2 : Int) (l0_3 : List Int) (l0_4 : List Int) (l0_5 : List Int) (a1_0 : Int) (a1_1 : Int) (a1_2 : Int) (l1_3 : List Int) (l1_4 : List Int) (l1_5 : List Int) (a2 : Int) : Option (Bool) := (laws_szModel.f a0_0 a0_1 a0_2 l0_3 l0_4 l0_5 1048576).bind fun t222 => (if t222 < 0 then (some true) else ((laws_szModel.f a1_0 a1_1 a1_2 l1_3 l1_4 l1_5 t222).bind fun t223 => (if t223 < 0 then (some true) else ((laws_toModel.f k a0_0 a0_1 a0_2 l0_3 l0_4 l0_5).bind fun bt224 => ((laws_toModel.f k a1_0 a1_1 a1_2 l1_3 l1_4 l1_5).bind fun bt236 => ((spec_SortTable.f k bt224.1 bt224.2.1 bt224.2.2.1 bt224.2.2.2.1 bt224.2.2.2.2.1 bt224.2.2.2.2.2 bt236.1 bt236.2.1 bt236.2.2.1 bt236.2.2.2.1 bt236.2.2.2.2.1 bt236.2.2.2.2.2 a2).bind fun bt248 => ((laws_toModel.f k a0_0 a0_1 a0_2 l0_3 l0_4 l0_5).bind fun bt252 => ((laws_toModel.f k a1_0 a1_1 a1_2 l1_3 l1_4 l1_5).bind fun bt265 => ((impl_SortTable.f k bt252.1 bt252.2.1 bt252.2.2.1 bt252.2.2.2.1 bt252.2.2.2.2.1 bt252.2.2.2.2.2 bt265.1 bt265.2.1 bt265.2.2.1 bt265.2.2.2.1 bt265.2.2.2.2.1 bt265.2.2.2.2.2 a2).bind fun bt278 => ((laws_eqIntS.f k bt278.1 bt248.1).bind fun t282 => (if t282 = true then (laws_FnExactSortTable.j0 k a2 bt248.1 bt248.2 bt278.1 bt278.2 (bt278.2 != bt248.2) a0_0 a0_1 a0_2 l0_3 l0_4 l0_5 a1_0 a1_1 a1_2 l1_3 l1_4 l1_5 bt252.1 bt252.2.1 bt252.2.2.1 bt252.2.2.2.1 bt252.2.2.2.2.1 bt252.2.2.2.2.2 bt265.1 bt265.2.1 bt265.2.2.1 bt265.2.2.2.1 bt265.2.2.2.2.1 bt265.2.2.2.2.2) else (laws_FnExactSortTable.j0 k a2 bt248.1 bt248.2 bt278.1 bt278.2 true a0_0 a0_1 a0_2 l0_3 l0_4 l0_5 a1_0 a1_1 a1_2 l1_3 l1_4 l1_5 bt252.1 bt252.2.1 bt252.2.2.1 bt252.2.2.2.1 bt252.2.2.2.2.1 bt252.2.2.2.2.2 bt265.1 bt265.2.1 bt265.2.2.1 bt265.2.2.2.1 bt265.2.2.2.2.1 bt265.2.2.2.2.2))))))))))))
def laws_FnExactSortTable.T8 : Bool × List (List Nat × List Nat) := (true, [([], []), ([0], [0]), ([], []), ([2, 1], [2]), ([], []), ([1, 3, 4, 3], [1, 3, 4]), ([5], [5]), ([6], [6]), ([6], [6]), ([7, 5, 0, 1, 2, 3, 4, 5, 6, 7], [7]), ([8, 9, 0, 1, 2, 3, 4, 5, 6, 7, 8, 9], [8])])
def laws_FnExactSortTable.B8 : List Nat := [0, 1, 0, 7, 0, 31, 63, 127, 127, 255, 1023]
theorem laws_FnExactSortTable.tab8 : rtab .any (opsOf Try.f5 8) = laws_FnExactSortTable.T8 := by kernel_rfl
theorem laws_FnExactSortTable.bits8 : waitsOk laws_FnExactSortTable.T8.2 laws_FnExactSortTable.B8 = true := by kernel_rfl
def laws_FnExactSortTable.T31 : Bool × List (List Nat × List Nat) := (true, [([], []), ([0], [0]), ([], []), ([2, 1], [2]), ([], []), ([1, 3, 4, 3], [1, 3, 4]), ([5], [5]), ([6], [6]), ([6], [6]), ([7, 5, 0, 1, 2, 3, 4, 5, 6, 7], [7]), ([8, 9, 0, 1, 2, 3, 4, 5, 6, 7, 8, 9], [8])])
def laws_FnExactSortTable.B31 : List Nat := [0, 1, 0, 7, 0, 31, 63, 127, 127, 255, 1023]
theorem laws_FnExactSortTable.tab31 : rtab .any (opsOf Try.f5 31) = laws_FnExactSortTable.T31 := by kernel_rfl
theorem laws_FnExactSortTable.bits31 : waitsOk laws_FnExactSortTable.T31.2 laws_FnExactSortTable.B31 = true := by kernel_rfl
set_option maxHeartbeats 8000000 in
set_option maxRecDepth 100000 in
theorem laws_FnExactSortTable.calls (k : Nat) (a0_0 : Int) (a0_1 : Int) (a0_2 : Int) (A0_3 : Option Addr) (c0_3 : Nat) (l0_3 : List Int) (A0_4 : Option Addr) (c0_4 : Nat) (l0_4 : List Int) (A0_5 : Option Addr) (c0_5 : Nat) (l0_5 : List Int) (a1_0 : Int) (a1_1 : Int) (a1_2 : Int) (A1_3 : Option Addr) (c1_3 : Nat) (l1_3 : List Int) (A1_4 : Option Addr) (c1_4 : Nat) (l1_4 : List Int) (A1_5 : Option Addr) (c1_5 : Nat) (l1_5 : List Int) (a2 : Int) (r : Bool) (w : World) (hr0_3 : Kd.C (Kd.int .i64) w A0_3 l0_3.length l0_3) (hc0_3 : l0_3.length ≤ c0_3) (hr0_4 : Kd.C (Kd.int .i64) w A0_4 l0_4.length l0_4) (hc0_4 : l0_4.length ≤ c0_4) (hr0_5 : Kd.C (Kd.int .i64) w A0_5 l0_5.length l0_5) (hc0_5 : l0_5.length ≤ c0_5) (hr1_3 : Kd.C (Kd.int .i64) w A1_3 l1_3.length l1_3) (hc1_3 : l1_3.length ≤ c1_3) (hr1_4 : Kd.C (Kd.int .i64) w A1_4 l1_4.length l1_4) (hc1_4 : l1_4.length ≤ c1_4) (hr1_5 : Kd.C (Kd.int .i64) w A1_5 l1_5.length l1_5) (hc1_5 : l1_5.length ≤ c1_5) (h : laws_FnExactSortTable.f k a0_0 a0_1 a0_2 l0_3 l0_4 l0_5 a1_0 a1_1 a1_2 l1_3 l1_4 l1_5 a2 = some r) :
  Calls Try.prog 5 #[.agg #[.int .i64 a0_0, .int .i64 a0_1, .int .i64 a0_2, .slice A0_3 l0_3.length c0_3, .slice A0_4 l0_4.length c0_4, .slice A0_5 l0_5.length c0_5], .agg #[.int .i64 a1_0, .int .i64 a1_1, .int .i64 a1_2, .slice A1_3 l1_3.length c1_3, .slice A1_4 l1_4.length c1_4, .slice A1_5 l1_5.length c1_5], .int .i64 a2] w fun e w' => e = .returned (.bool r) ∧ Below w.heap.size w w' := by
 have hu26 := Try.underlying26
 have hu41 := Try.underlying41
 have HR0_3 := Aside0.mk hr0_3
 have HC0_3 := Aside0.mk hc0_3
 clear hr0_3 hc0_3
 have HR0_4 := Aside0.mk hr0_4
 have HC0_4 := Aside0.mk hc0_4
 clear hr0_4 hc0_4
 have HR0_5 := Aside0.mk hr0_5
 have HC0_5 := Aside0.mk hc0_5
 clear hr0_5 hc0_5
 have HR1_3 := Aside0.mk hr1_3
 have HC1_3 := Aside0.mk hc1_3
 clear hr1_3 hc1_3
 have HR1_4 := Aside0.mk hr1_4
 have HC1_4 := Aside0.mk hc1_4
 clear hr1_4 hc1_4
 have HR1_5 := Aside0.mk hr1_5
 have HC1_5 := Aside0.mk hc1_5
 clear hr1_5 hc1_5
 have HB := Aside0.mk (Below.refl w.heap.size w)
 have H : ((laws_szModel.f a0_0 a0_1 a0_2 l0_3 l0_4 l0_5 1048576).bind fun t222 => (if t222 < 0 then (some true) else ((laws_szModel.f a1_0 a1_1 a1_2 l1_3 l1_4 l1_5 t222).bind fun t223 => (if t223 < 0 then (some true) else ((laws_toModel.f k a0_0 a0_1 a0_2 l0_3 l0_4 l0_5).bind fun bt224 => ((laws_toModel.f k a1_0 a1_1 a1_2 l1_3 l1_4 l1_5).bind fun bt236 => ((spec_SortTable.f k bt224.1 bt224.2.1 bt224.2.2.1 bt224.2.2.2.1 bt224.2.2.2.2.1 bt224.2.2.2.2.2 bt236.1 bt236.2.1 bt236.2.2.1 bt236.2.2.2.1 bt236.2.2.2.2.1 bt236.2.2.2.2.2 a2).bind fun bt248 => ((laws_toModel.f k a0_0 a0_1 a0_2 l0_3 l0_4 l0_5).bind fun bt252 => ((laws_toModel.f k a1_0 a1_1 a1_2 l1_3 l1_4 l1_5).bind fun bt265 => ((impl_SortTable.f k bt252.1 bt252.2.1 bt252.2.2.1 bt252.2.2.2.1 bt252.2.2.2.2.1 bt252.2.2.2.2.2 bt265.1 bt265.2.1 bt265.2.2.1 bt265.2.2.2.1 bt265.2.2.2.2.1 bt265.2.2.2.2.2 a2).bind fun bt278 => ((laws_eqIntS.f k bt278.1 bt248.1).bind fun t282 => (if t282 = true then (laws_FnExactSortTable.j0 k a2 bt248.1 bt248.2 bt278.1 bt278.2 (bt278.2 != bt248.2) a0_0 a0_1 a0_2 l0_3 l0_4 l0_5 a1_0 a1_1 a1_2 l1_3 l1_4 l1_5 bt252.1 bt252.2.1 bt252.2.2.1 bt252.2.2.2.1 bt252.2.2.2.2.1 bt252.2.2.2.2.2 bt265.1 bt265.2.1 bt265.2.2.1 bt265.2.2.2.1 bt265.2.2.2.2.1 bt265.2.2.2.2.2) else (laws_FnExactSortTable.j0 k a2 bt248.1 bt248.2 bt278.1 bt278.2 true a0_0 a0_1 a0_2 l0_3 l0_4 l0_5 a1_0 a1_1 a1_2 l1_3 l1_4 l1_5 bt252.1 bt252.2.1 bt252.2.2.1 bt252.2.2.2.1 bt252.2.2.2.2.1 bt252.2.2.2.2.2 bt265.1 bt265.2.1 bt265.2.2.1 bt265.2.2.2.1 bt265.2.2.2.2.1 bt265.2.2.2.2.2))))))))))))) = some r := h
 clear h
 replace H := Option.bind_eq_some_iff.mp H
 obtain ⟨t222, A40, H⟩ := H
 have A4 := Aside0.mk A40
 clear A40
 by_cases c5 : t222 < 0
 ·rw [if_pos c5] at H
  have c5b0 : decide (t222 < 0) = true := decide_eq_true c5
  clear c5
  obtain rfl := Option.some.inj H
  go_enter Try.func5, Try.ntmps5
  go_wp2_with (first | ((with_reducible refine gate_dst (N := 3) rfl ?_); refine box_event ?hg (N := 3) ?hd (cs := #[.int .i64 a0_0, .int .i64 a0_1, .int .i64 a0_2, .slice A0_3 l0_3.length c0_3, .slice A0_4 l0_4.length c0_4, .slice A0_5 l0_5.length c0_5]) (t := 26) ?hr ?_; (case hd => rfl); (case hg => rfl); (case hr => first | (go_simp; done) | (go_simp; rfl)); intro gb220 hg w6 hbox hb; have BK220 := Aside0.mk (hbox); have GW220 := Aside0.mk ((by rw [hg]; exact (below_size (be0x7 HB.out)) : w.heap.size ≤ gb220)); have GE220 := Aside0.mk ((by rw [hg]; exact (below_size (be0x7 HB.out)) : w.heap.size ≤ gb220)); replace HB := Aside0.mk (below_step (be0x7 HB.out) hb); clear hb hbox hg) | ((with_reducible refine gate_dst (N := 4) rfl ?_); refine box_event ?hg (N := 4) ?hd (cs := #[.int .i64 a1_0, .int .i64 a1_1, .int .i64 a1_2, .slice A1_3 l1_3.length c1_3, .slice A1_4 l1_4.length c1_4, .slice A1_5 l1_5.length c1_5]) (t := 26) ?hr ?_; (case hd => rfl); (case hg => rfl); (case hr => first | (go_simp; done) | (go_simp; rfl)); intro gb221 hg w7 hbox hb; have BK221 := Aside0.mk (hbox); have GW221 := Aside0.mk ((by rw [hg]; exact (below_size (be1x7 HB.out GE220.out)) : w.heap.size ≤ gb221)); have GE221 := Aside0.mk ((by rw [hg]; exact (below_size (be1x7 HB.out GE220.out)) : w.heap.size ≤ gb221)); replace HB := Aside0.mk (below_step (be1x7 HB.out GE220.out) hb); have NB220_221 := Aside0.mk ((by rw [hg]; exact Nat.ne_of_lt (blk_lt (g := gb220) (o := .cells #[.int .i64 a0_0, .int .i64 a0_1, .int .i64 a0_2, .slice A0_3 l0_3.length c0_3, .slice A0_4 l0_4.length c0_4, .slice A0_5 l0_5.length c0_5] 26 (0, 0)) (rBx7 BK220.out)) : gb220 ≠ gb221)); have NB221_220 := Aside0.mk ((by rw [hg]; exact Nat.ne_of_gt (blk_lt (g := gb220) (o := .cells #[.int .i64 a0_0, .int .i64 a0_1, .int .i64 a0_2, .slice A0_3 l0_3.length c0_3, .slice A0_4 l0_4.length c0_4, .slice A0_5 l0_5.length c0_5] 26 (0, 0)) (rBx7 BK220.out)) : gb221 ≠ gb220)); replace BK220 := Aside0.mk (blk_below (g := gb220) (o := .cells #[.int .i64 a0_0, .int .i64 a0_1, .int .i64 a0_2, .slice A0_3 l0_3.length c0_3, .slice A0_4 l0_4.length c0_4, .slice A0_5 l0_5.length c0_5] 26 (0, 0)) (rBx7 BK220.out) hb); clear hb hbox hg; have hnb8 := NB220_221.out; have hnc8 := NB221_220.out; obtain ⟨hcz9_0, hcz9_1, hcz9_2, hcz9_3, hcz9_4, hcz9_5, hfz9_0, hfz9_1, hfz9_2, hfz9_3, hfz9_4, hfz9_5⟩ := cf6x7 BK220.out) | ((with_reducible refine gate_callee (f := 15) rfl ?_); refine goesL_ (some 21) rfl rfl Try.func15 (by kernel_rfl) rfl #[.agg #[.int .i64 a0_0, .int .i64 a0_1, .int .i64 a0_2, .slice A0_3 l0_3.length c0_3, .slice A0_4 l0_4.length c0_4, .slice A0_5 l0_5.length c0_5], .int .i64 1048576] rfl mpx7 ?_; (with_reducible refine (laws_szModel.calls a0_0 a0_1 a0_2 _ _ l0_3 _ _ l0_4 _ _ l0_5 1048576 t222 _ ?side1 ?side2 ?side3 ?side4 ?side5 ?side6 A4.out).mono ?_); (case side1 => exact rCx7 (Kd.C_below HR0_3.out HB.out)); (case side2 => exact HC0_3.out); (case side3 => exact rCx7 (Kd.C_below HR0_4.out HB.out)); (case side4 => exact HC0_4.out); (case side5 => exact rCx7 (Kd.C_below HR0_5.out HB.out)); (case side6 => exact HC0_5.out); rintro e w10 ⟨rfl, hb⟩; refine ⟨_, rfl, ?_⟩; replace BK220 := Aside0.mk (blk_below (g := gb220) (o := .cells #[.int .i64 a0_0, .int .i64 a0_1, .int .i64 a0_2, .slice A0_3 l0_3.length c0_3, .slice A0_4 l0_4.length c0_4, .slice A0_5 l0_5.length c0_5] 26 (0, 0)) (rBx7 BK220.out) hb); replace BK221 := Aside0.mk (blk_below (g := gb221) (o := .cells #[.int .i64 a1_0, .int .i64 a1_1, .int .i64 a1_2, .slice A1_3 l1_3.length c1_3, .slice A1_4 l1_4.length c1_4, .slice A1_5 l1_5.length c1_5] 26 (0, 0)) (rBx7 BK221.out) hb); replace HB := Aside0.mk (below_step (be2x7 HB.out GE220.out GE221.out) hb); (try clear hb); (try clear hb2); (try clear hk); (try clear hi)))
  go_ret
  exact ⟨by first | rfl | (simp [errW_none, errW_some] <;> rfl) | (simp [*, errW_none, errW_some] <;> rfl), be2x7 HB.out GE220.out GE221.out⟩
 ·rw [if_neg c5] at H
  have c5b0 : decide (t222 < 0) = false := decide_eq_false c5
  clear c5
  replace H := Option.bind_eq_some_iff.mp H
  obtain ⟨t223, A110, H⟩ := H
  have A11 := Aside0.mk A110
  clear A110
  by_cases c12 : t223 < 0
  ·rw [if_pos c12] at H
   have c12b0 : decide (t223 < 0) = true := decide_eq_true c12
   clear c12
   obtain rfl := Option.some.inj H
   go_enter Try.func5, Try.ntmps5
   go_wp2_with (first | ((with_reducible refine gate_dst (N := 3) rfl ?_); refine box_event ?hg (N := 3) ?hd (cs := #[.int .i64 a0_0, .int .i64 a0_1, .int .i64 a0_2, .slice A0_3 l0_3.length c0_3, .slice A0_4 l0_4.length c0_4, .slice A0_5 l0_5.length c0_5]) (t := 26) ?hr ?_; (case hd => rfl); (case hg => rfl); (case hr => first | (go_simp; done) | (go_simp; rfl)); intro gb220 hg w13 hbox hb; have BK220 := Aside0.mk (hbox); have GW220 := Aside0.mk ((by rw [hg]; exact (below_size (be0x7 HB.out)) : w.heap.size ≤ gb220)); have GE220 := Aside0.mk ((by rw [hg]; exact (below_size (be0x7 HB.out)) : w.heap.size ≤ gb220)); replace HB := Aside0.mk (below_step (be0x7 HB.out) hb); clear hb hbox hg) | ((with_reducible refine gate_dst (N := 4) rfl ?_); refine box_event ?hg (N := 4) ?hd (cs := #[.int .i64 a1_0, .int .i64 a1_1, .int .i64 a1_2, .slice A1_3 l1_3.length c1_3, .slice A1_4 l1_4.length c1_4, .slice A1_5 l1_5.length c1_5]) (t := 26) ?hr ?_; (case hd => rfl); (case hg => rfl); (case hr => first | (go_simp; done) | (go_simp; rfl)); intro gb221 hg w14 hbox hb; have BK221 := Aside0.mk (hbox); have GW221 := Aside0.mk ((by rw [hg]; exact (below_size (be1x7 HB.out GE220.out)) : w.heap.size ≤ gb221)); have GE221 := Aside0.mk ((by rw [hg]; exact (below_size (be1x7 HB.out GE220.out)) : w.heap.size ≤ gb221)); replace HB := Aside0.mk (below_step (be1x7 HB.out GE220.out) hb); have NB220_221 := Aside0.mk ((by rw [hg]; exact Nat.ne_of_lt (blk_lt (g := gb220) (o := .cells #[.int .i64 a0_0, .int .i64 a0_1, .int .i64 a0_2, .slice A0_3 l0_3.length c0_3, .slice A0_4 l0_4.length c0_4, .slice A0_5 l0_5.length c0_5] 26 (0, 0)) (rBx7 BK220.out)) : gb220 ≠ gb221)); have NB221_220 := Aside0.mk ((by rw [hg]; exact Nat.ne_of_gt (blk_lt (g := gb220) (o := .cells #[.int .i64 a0_0, .int .i64 a0_1, .int .i64 a0_2, .slice A0_3 l0_3.length c0_3, .slice A0_4 l0_4.length c0_4, .slice A0_5 l0_5.length c0_5] 26 (0, 0)) (rBx7 BK220.out)) : gb221 ≠ gb220)); replace BK220 := Aside0.mk (blk_below (g := gb220) (o := .cells #[.int .i64 a0_0, .int .i64 a0_1, .int .i64 a0_2, .slice A0_3 l0_3.length c0_3, .slice A0_4 l0_4.length c0_4, .slice A0_5 l0_5.length c0_5] 26 (0, 0)) (rBx7 BK220.out) hb); clear hb hbox hg; have hnb15 := NB220_221.out; have hnc15 := NB221_220.out; obtain ⟨hcz16_0, hcz16_1, hcz16_2, hcz16_3, hcz16_4, hcz16_5, hfz16_0, hfz16_1, hfz16_2, hfz16_3, hfz16_4, hfz16_5⟩ := cf6x7 BK220.out) | ((with_reducible refine gate_callee (f := 15) rfl ?_); refine goesL_ (some 21) rfl rfl Try.func15 (by kernel_rfl) rfl #[.agg #[.int .i64 a0_0, .int .i64 a0_1, .int .i64 a0_2, .slice A0_3 l0_3.length c0_3, .slice A0_4 l0_4.length c0_4, .slice A0_5 l0_5.length c0_5], .int .i64 1048576] rfl mpx7 ?_; (with_reducible refine (laws_szModel.calls a0_0 a0_1 a0_2 _ _ l0_3 _ _ l0_4 _ _ l0_5 1048576 t222 _ ?side1 ?side2 ?side3 ?side4 ?side5 ?side6 A4.out).mono ?_); (case side1 => exact rCx7 (Kd.C_below HR0_3.out HB.out)); (case side2 => exact HC0_3.out); (case side3 => exact rCx7 (Kd.C_below HR0_4.out HB.out)); (case side4 => exact HC0_4.out); (case side5 => exact rCx7 (Kd.C_below HR0_5.out HB.out)); (case side6 => exact HC0_5.out); rintro e w17 ⟨rfl, hb⟩; refine ⟨_, rfl, ?_⟩; replace BK220 := Aside0.mk (blk_below (g := gb220) (o := .cells #[.int .i64 a0_0, .int .i64 a0_1, .int .i64 a0_2, .slice A0_3 l0_3.length c0_3, .slice A0_4 l0_4.length c0_4, .slice A0_5 l0_5.length c0_5] 26 (0, 0)) (rBx7 BK220.out) hb); replace BK221 := Aside0.mk (blk_below (g := gb221) (o := .cells #[.int .i64 a1_0, .int .i64 a1_1, .int .i64 a1_2, .slice A1_3 l1_3.length c1_3, .slice A1_4 l1_4.length c1_4, .slice A1_5 l1_5.length c1_5] 26 (0, 0)) (rBx7 BK221.out) hb); replace HB := Aside0.mk (below_step (be2x7 HB.out GE220.out GE221.out) hb); (try clear hb); (try clear hb2); (try clear hk); (try clear hi); obtain ⟨hcz18_0, hcz18_1, hcz18_2, hcz18_3, hcz18_4, hcz18_5, hfz18_0, hfz18_1, hfz18_2, hfz18_3, hfz18_4, hfz18_5⟩ := cf6x7 BK221.out) | ((with_reducible refine gate_callee (f := 15) rfl ?_); refine goesL_ (some 26) rfl rfl Try.func15 (by kernel_rfl) rfl #[.agg #[.int .i64 a1_0, .int .i64 a1_1, .int .i64 a1_2, .slice A1_3 l1_3.length c1_3, .slice A1_4 l1_4.length c1_4, .slice A1_5 l1_5.length c1_5], .int .i64 t222] rfl mpx7 ?_; (with_reducible refine (laws_szModel.calls a1_0 a1_1 a1_2 _ _ l1_3 _ _ l1_4 _ _ l1_5 t222 t223 _ ?side1 ?side2 ?side3 ?side4 ?side5 ?side6 A11.out).mono ?_); (case side1 => exact rCx7 (Kd.C_below HR1_3.out HB.out)); (case side2 => exact HC1_3.out); (case side3 => exact rCx7 (Kd.C_below HR1_4.out HB.out)); (case side4 => exact HC1_4.out); (case side5 => exact rCx7 (Kd.C_below HR1_5.out HB.out)); (case side6 => exact HC1_5.out); rintro e w19 ⟨rfl, hb⟩; refine ⟨_, rfl, ?_⟩; replace BK220 := Aside0.mk (blk_below (g := gb220) (o := .cells #[.int .i64 a0_0, .int .i64 a0_1, .int .i64 a0_2, .slice A0_3 l0_3.length c0_3, .slice A0_4 l0_4.length c0_4, .slice A0_5 l0_5.length c0_5] 26 (0, 0)) (rBx7 BK220.out) hb); replace BK221 := Aside0.mk (blk_below (g := gb221) (o := .cells #[.int .i64 a1_0, .int .i64 a1_1, .int .i64 a1_2, .slice A1_3 l1_3.length c1_3, .slice A1_4 l1_4.length c1_4, .slice A1_5 l1_5.length c1_5] 26 (0, 0)) (rBx7 BK221.out) hb); replace HB := Aside0.mk (below_step (be2x7 HB.out GE220.out GE221.out) hb); (try clear hb); (try clear hb2); (try clear hk); (try clear hi)))
   go_ret
   exact ⟨by first | rfl | (simp [errW_none, errW_some] <;> rfl) | (simp [*, errW_none, errW_some] <;> rfl), be2x7 HB.out GE220.out GE221.out⟩
  ·rw [if_neg c12] at H
   have c12b0 : decide (t223 < 0) = false := decide_eq_false c12
   clear c12
   replace H := Option.bind_eq_some_iff.mp H
   obtain ⟨⟨t224, t225, t226, t227, t230, t233⟩, A200, H⟩ := H
   (try dsimp only at H)
   have A20 := Aside0.mk A200
   clear A200
   replace H := Option.bind_eq_some_iff.mp H
   obtain ⟨⟨t236, t237, t238, t239, t242, t245⟩, A210, H⟩ := H
   (try dsimp only at H)
   have A21 := Aside0.mk A210
   clear A210
   replace H := Option.bind_eq_some_iff.mp H
   obtain ⟨⟨t248, t251⟩, A220, H⟩ := H
   (try dsimp only at H)
   have A22 := Aside0.mk A220
   clear A220
   replace H := Option.bind_eq_some_iff.mp H
   obtain ⟨⟨t252, t253, t254, t255, t258, t261⟩, A230, H⟩ := H
   (try dsimp only at H)
   have A23 := Aside0.mk A230
   clear A230
   replace H := Option.bind_eq_some_iff.mp H
   obtain ⟨⟨t265, t266, t267, t268, t271, t274⟩, A240, H⟩ := H
   (try dsimp only at H)
   have A24 := Aside0.mk A240
   clear A240
   replace H := Option.bind_eq_some_iff.mp H
   obtain ⟨⟨t278, t281⟩, A250, H⟩ := H
   (try dsimp only at H)
   have A25 := Aside0.mk A250
   clear A250
   have HC26 := Aside0.mk H
   clear H
   go_enter Try.func5, Try.ntmps5
   try go_wp2_with (first | ((with_reducible refine gate_dst (N := 3) rfl ?_); refine box_event ?hg (N := 3) ?hd (cs := #[.int .i64 a0_0, .int .i64 a0_1, .int .i64 a0_2, .slice A0_3 l0_3.length c0_3, .slice A0_4 l0_4.length c0_4, .slice A0_5 l0_5.length c0_5]) (t := 26) ?hr ?_; (case hd => rfl); (case hg => rfl); (case hr => first | (go_simp; done) | (go_simp; rfl)); intro gb220 hg w27 hbox hb; have BK220 := Aside0.mk (hbox); have GW220 := Aside0.mk ((by rw [hg]; exact (below_size (be0x7 HB.out)) : w.heap.size ≤ gb220)); have GE220 := Aside0.mk ((by rw [hg]; exact (below_size (be0x7 HB.out)) : w.heap.size ≤ gb220)); replace HB := Aside0.mk (below_step (be0x7 HB.out) hb); clear hb hbox hg) | ((with_reducible refine gate_dst (N := 4) rfl ?_); refine box_event ?hg (N := 4) ?hd (cs := #[.int .i64 a1_0, .int .i64 a1_1, .int .i64 a1_2, .slice A1_3 l1_3.length c1_3, .slice A1_4 l1_4.length c1_4, .slice A1_5 l1_5.length c1_5]) (t := 26) ?hr ?_; (case hd => rfl); (case hg => rfl); (case hr => first | (go_simp; done) | (go_simp; rfl)); intro gb221 hg w28 hbox hb; have BK221 := Aside0.mk (hbox); have GW221 := Aside0.mk ((by rw [hg]; exact (below_size (be1x7 HB.out GE220.out)) : w.heap.size ≤ gb221)); have GE221 := Aside0.mk ((by rw [hg]; exact (below_size (be1x7 HB.out GE220.out)) : w.heap.size ≤ gb221)); replace HB := Aside0.mk (below_step (be1x7 HB.out GE220.out) hb); have NB220_221 := Aside0.mk ((by rw [hg]; exact Nat.ne_of_lt (blk_lt (g := gb220) (o := .cells #[.int .i64 a0_0, .int .i64 a0_1, .int .i64 a0_2, .slice A0_3 l0_3.length c0_3, .slice A0_4 l0_4.length c0_4, .slice A0_5 l0_5.length c0_5] 26 (0, 0)) (rBx7 BK220.out)) : gb220 ≠ gb221)); have NB221_220 := Aside0.mk ((by rw [hg]; exact Nat.ne_of_gt (blk_lt (g := gb220) (o := .cells #[.int .i64 a0_0, .int .i64 a0_1, .int .i64 a0_2, .slice A0_3 l0_3.length c0_3, .slice A0_4 l0_4.length c0_4, .slice A0_5 l0_5.length c0_5] 26 (0, 0)) (rBx7 BK220.out)) : gb221 ≠ gb220)); replace BK220 := Aside0.mk (blk_below (g := gb220) (o := .cells #[.int .i64 a0_0, .int .i64 a0_1, .int .i64 a0_2, .slice A0_3 l0_3.length c0_3, .slice A0_4 l0_4.length c0_4, .slice A0_5 l0_5.length c0_5] 26 (0, 0)) (rBx7 BK220.out) hb); clear hb hbox hg; have hnb29 := NB220_221.out; have hnc29 := NB221_220.out; obtain ⟨hcz30_0, hcz30_1, hcz30_2, hcz30_3, hcz30_4, hcz30_5, hfz30_0, hfz30_1, hfz30_2, hfz30_3, hfz30_4, hfz30_5⟩ := cf6x7 BK220.out) | ((with_reducible refine gate_callee (f := 15) rfl ?_); refine goesL_ (some 21) rfl rfl Try.func15 (by kernel_rfl) rfl #[.agg #[.int .i64 a0_0, .int .i64 a0_1, .int .i64 a0_2, .slice A0_3 l0_3.length c0_3, .slice A0_4 l0_4.length c0_4, .slice A0_5 l0_5.length c0_5], .int .i64 1048576] rfl mpx7 ?_; (with_reducible refine (laws_szModel.calls a0_0 a0_1 a0_2 _ _ l0_3 _ _ l0_4 _ _ l0_5 1048576 t222 _ ?side1 ?side2 ?side3 ?side4 ?side5 ?side6 A4.out).mono ?_); (case side1 => exact rCx7 (Kd.C_below HR0_3.out HB.out)); (case side2 => exact HC0_3.out); (case side3 => exact rCx7 (Kd.C_below HR0_4.out HB.out)); (case side4 => exact HC0_4.out); (case side5 => exact rCx7 (Kd.C_below HR0_5.out HB.out)); (case side6 => exact HC0_5.out); rintro e w31 ⟨rfl, hb⟩; refine ⟨_, rfl, ?_⟩; replace BK220 := Aside0.mk (blk_below (g := gb220) (o := .cells #[.int .i64 a0_0, .int .i64 a0_1, .int .i64 a0_2, .slice A0_3 l0_3.length c0_3, .slice A0_4 l0_4.length c0_4, .slice A0_5 l0_5.length c0_5] 26 (0, 0)) (rBx7 BK220.out) hb); replace BK221 := Aside0.mk (blk_below (g := gb221) (o := .cells #[.int .i64 a1_0, .int .i64 a1_1, .int .i64 a1_2, .slice A1_3 l1_3.length c1_3, .slice A1_4 l1_4.length c1_4, .slice A1_5 l1_5.length c1_5] 26 (0, 0)) (rBx7 BK221.out) hb); replace HB := Aside0.mk (below_step (be2x7 HB.out GE220.out GE221.out) hb); (try clear hb); (try clear hb2); (try clear hk); (try clear hi); obtain ⟨hcz32_0, hcz32_1, hcz32_2, hcz32_3, hcz32_4, hcz32_5, hfz32_0, hfz32_1, hfz32_2, hfz32_3, hfz32_4, hfz32_5⟩ := cf6x7 BK221.out) | ((with_reducible refine gate_callee (f := 15) rfl ?_); refine goesL_ (some 26) rfl rfl Try.func15 (by kernel_rfl) rfl #[.agg #[.int .i64 a1_0, .int .i64 a1_1, .int .i64 a1_2, .slice A1_3 l1_3.length c1_3, .slice A1_4 l1_4.length c1_4, .slice A1_5 l1_5.length c1_5], .int .i64 t222] rfl mpx7 ?_; (with_reducible refine (laws_szModel.calls a1_0 a1_1 a1_2 _ _ l1_3 _ _ l1_4 _ _ l1_5 t222 t223 _ ?side1 ?side2 ?side3 ?side4 ?side5 ?side6 A11.out).mono ?_); (case side1 => exact rCx7 (Kd.C_below HR1_3.out HB.out)); (case side2 => exact HC1_3.out); (case side3 => exact rCx7 (Kd.C_below HR1_4.out HB.out)); (case side4 => exact HC1_4.out); (case side5 => exact rCx7 (Kd.C_below HR1_5.out HB.out)); (case side6 => exact HC1_5.out); rintro e w33 ⟨rfl, hb⟩; refine ⟨_, rfl, ?_⟩; replace BK220 := Aside0.mk (blk_below (g := gb220) (o := .cells #[.int .i64 a0_0, .int .i64 a0_1, .int .i64 a0_2, .slice A0_3 l0_3.length c0_3, .slice A0_4 l0_4.length c0_4, .slice A0_5 l0_5.length c0_5] 26 (0, 0)) (rBx7 BK220.out) hb); replace BK221 := Aside0.mk (blk_below (g := gb221) (o := .cells #[.int .i64 a1_0, .int .i64 a1_1, .int .i64 a1_2, .slice A1_3 l1_3.length c1_3, .slice A1_4 l1_4.length c1_4, .slice A1_5 l1_5.length c1_5] 26 (0, 0)) (rBx7 BK221.out) hb); replace HB := Aside0.mk (below_step (be2x7 HB.out GE220.out GE221.out) hb); (try clear hb); (try clear hb2); (try clear hk); (try clear hi)))
   have n0_ := Aside0.mk (blk_drew BK220.out)
   have n1_ := Aside0.mk (blk_drew BK221.out)
   have n2_ := Aside0.mk (below_drew1 HB.out)
   clear BK220
   clear BK221
   clear HB
   have BK220 := n0_
   have BK221 := n1_
   have HB := n2_
   clear n0_ n1_ n2_
   refine start_ (n := 11) (S := fun w' => w'.cell? ⟨gb220, 0, none⟩ = some (.int .i64 a0_0) ∧ w'.cell? ⟨gb220, 1, none⟩ = some (.int .i64 a0_1) ∧ w'.cell? ⟨gb220, 2, none⟩ = some (.int .i64 a0_2) ∧ w'.cell? ⟨gb220, 3, none⟩ = some (.slice A0_3 l0_3.length c0_3) ∧ w'.cell? ⟨gb220, 4, none⟩ = some (.slice A0_4 l0_4.length c0_4) ∧ w'.cell? ⟨gb220, 5, none⟩ = some (.slice A0_5 l0_5.length c0_5) ∧ w'.cell? ⟨gb221, 0, none⟩ = some (.int .i64 a1_0) ∧ w'.cell? ⟨gb221, 1, none⟩ = some (.int .i64 a1_1) ∧ w'.cell? ⟨gb221, 2, none⟩ = some (.int .i64 a1_2) ∧ w'.cell? ⟨gb221, 3, none⟩ = some (.slice A1_3 l1_3.length c1_3) ∧ w'.cell? ⟨gb221, 4, none⟩ = some (.slice A1_4 l1_4.length c1_4) ∧ w'.cell? ⟨gb221, 5, none⟩ = some (.slice A1_5 l1_5.length c1_5)) (ds := []) #[false, false, false, false, false, false, false, false, false, false, false] (by kernel_rfl) rfl rfl (ca6x7 BK220.out (cc6x7 BK221.out)) (fun hHeld => ?_); refine with_tabW laws_FnExactSortTable.tab8 laws_FnExactSortTable.bits8 (fun HT_ HW_ => ?_)
   generalize w33.drew = w34 at BK220 BK221 HB hHeld ⊢
   refine pure_ (i := 4) (N := some 34) (v := ?_) (a' := ?_) #[false, false, false, false, true, false, false, false, false, false, false] rfl rfl (any_of HT_.out (by kernel_rfl)) (fun _ _ _ h => h) (Or.inl ⟨by rfl, ?_⟩) ?_ ?_
   rotate_left
   ·intro w'
    go_simp
    with_reducible rfl
   rotate_left
   ·simp only [Act.put, List.setIfInBounds_toArray, List.set_cons_zero, List.set_cons_succ, i64_w, i32_w]
    rfl
   refine take_ (i := 0) (N := some 30) (v := ?_) (a' := ?_) #[true, false, false, false, true, false, false, false, false, false, false] rfl rfl (take_ofW HT_.out HW_.out (by kernel_rfl)) (fun _ _ _ h => h) (Or.inl ⟨by rfl, ?_⟩) hHeld ?_ ?_
   rotate_left
   ·rintro w' ⟨s0, s1, s2, s3, s4, s5, s6, s7, s8, s9, s10, s11⟩
    go_simp
    with_reducible rfl
   rotate_left
   ·simp only [Act.put, List.setIfInBounds_toArray, List.set_cons_zero, List.set_cons_succ, i64_w, i32_w]
    rfl
   refine take_ (i := 2) (N := some 32) (v := ?_) (a' := ?_) #[true, false, true, false, true, false, false, false, false, false, false] rfl rfl (take_ofW HT_.out HW_.out (by kernel_rfl)) (fun _ _ _ h => h) (Or.inl ⟨by rfl, ?_⟩) hHeld ?_ ?_
   rotate_left
   ·rintro w' ⟨s0, s1, s2, s3, s4, s5, s6, s7, s8, s9, s10, s11⟩
    go_simp
    with_reducible rfl
   rotate_left
   ·simp only [Act.put, List.setIfInBounds_toArray, List.set_cons_zero, List.set_cons_succ, i64_w, i32_w]
    rfl
   refine one_ (i := 1) (N := some 31) #[true, true, true, false, true, false, false, false, false, false, false] rfl rfl (one_of HT_.out (by kernel_rfl)) (by decide) (fun K hK => ?_)
   refine goes_ Try.func19 (by kernel_rfl) rfl #[.agg #[.int .i64 a0_0, .int .i64 a0_1, .int .i64 a0_2, .slice A0_3 l0_3.length c0_3, .slice A0_4 l0_4.length c0_4, .slice A0_5 l0_5.length c0_5]] (by rfl) rfl rfl mpx7 ?_
   with_reducible refine (laws_toModel.calls k a0_0 a0_1 a0_2 _ _ l0_3 _ _ l0_4 _ _ l0_5 t224 t225 t226 t227 t230 t233 _ ?side1 ?side2 ?side3 ?side4 ?side5 ?side6 A20.out).mono ?_
   (case side1 => exact rCx7 (Kd.C_below HR0_3.out HB.out))
   (case side2 => exact HC0_3.out)
   (case side3 => exact rCx7 (Kd.C_below HR0_4.out HB.out))
   (case side4 => exact HC0_4.out)
   (case side5 => exact rCx7 (Kd.C_below HR0_5.out HB.out))
   (case side6 => exact HC0_5.out)
   rintro e w35 ⟨v228, v231, v234, rfl, ho0, ho1, ho2, hb⟩
   refine ⟨_, rfl, ?_⟩
   have n0_ := Aside0.mk (Kd.R_lower ho0 (below_size (be2x7 HB.out GE220.out GE221.out)))
   have n1_ := Aside0.mk (Kd.R_lower ho1 (below_size (be2x7 HB.out GE220.out GE221.out)))
   have n2_ := Aside0.mk (Kd.R_lower ho2 (below_size (be2x7 HB.out GE220.out GE221.out)))
   have n3_ := Aside0.mk (blk_below (g := gb220) (o := .cells #[.int .i64 a0_0, .int .i64 a0_1, .int .i64 a0_2, .slice A0_3 l0_3.length c0_3, .slice A0_4 l0_4.length c0_4, .slice A0_5 l0_5.length c0_5] 26 (0, 0)) (rBx7 BK220.out) hb)
   have n4_ := Aside0.mk (blk_below (g := gb221) (o := .cells #[.int .i64 a1_0, .int .i64 a1_1, .int .i64 a1_2, .slice A1_3 l1_3.length c1_3, .slice A1_4 l1_4.length c1_4, .slice A1_5 l1_5.length c1_5] 26 (0, 0)) (rBx7 BK221.out) hb)
   have n5_ := Aside0.mk (below_step (be2x7 HB.out GE220.out GE221.out) hb)
   clear BK220
   clear BK221
   clear HB
   have HO229 := n0_
   have HO232 := n1_
   have HO235 := n2_
   have BK220 := n3_
   have BK221 := n4_
   have HB := n5_
   clear n0_ n1_ n2_ n3_ n4_ n5_
   (try clear hb)
   (try clear hb2)
   (try clear hk)
   (try clear hi)
   (try clear ho0)
   (try clear ho1)
   (try clear ho2)
   refine hK.out _ _ (ca6x7 BK220.out (cc6x7 BK221.out)) (fun hHeld => ?_)
   clear hK K
   refine norm_ (a' := ?_) ?_ ?_
   rotate_left
   ·show Act.put _ (some 31) _ = _
    simp only [Act.put, List.setIfInBounds_toArray, List.set_cons_zero, List.set_cons_succ, i64_w, i32_w]
    rfl
   refine one_ (i := 3) (N := some 33) #[true, true, true, true, true, false, false, false, false, false, false] rfl rfl (one_of HT_.out (by kernel_rfl)) (by decide) (fun K hK => ?_)
   refine goes_ Try.func19 (by kernel_rfl) rfl #[.agg #[.int .i64 a1_0, .int .i64 a1_1, .int .i64 a1_2, .slice A1_3 l1_3.length c1_3, .slice A1_4 l1_4.length c1_4, .slice A1_5 l1_5.length c1_5]] (by rfl) rfl rfl mpx7 ?_
   with_reducible refine (laws_toModel.calls k a1_0 a1_1 a1_2 _ _ l1_3 _ _ l1_4 _ _ l1_5 t236 t237 t238 t239 t242 t245 _ ?side1 ?side2 ?side3 ?side4 ?side5 ?side6 A21.out).mono ?_
   (case side1 => exact rCx7 (Kd.C_below HR1_3.out HB.out))
   (case side2 => exact HC1_3.out)
   (case side3 => exact rCx7 (Kd.C_below HR1_4.out HB.out))
   (case side4 => exact HC1_4.out)
   (case side5 => exact rCx7 (Kd.C_below HR1_5.out HB.out))
   (case side6 => exact HC1_5.out)
   rintro e w36 ⟨v240, v243, v246, rfl, ho0, ho1, ho2, hb⟩
   refine ⟨_, rfl, ?_⟩
   have n0_ := Aside0.mk (kp3x7 (rRx7 HO229.out) hb ho0 ho1 ho2)
   have n1_ := Aside0.mk (kp3x7 (rRx7 HO232.out) hb ho0 ho1 ho2)
   have n2_ := Aside0.mk (kp3x7 (rRx7 HO235.out) hb ho0 ho1 ho2)
   have n3_ := Aside0.mk (Kd.R_lower (nwx7 (nwx7 (nwx7 ho0 (rRx7 HO229.out)) (rRx7 HO232.out)) (rRx7 HO235.out)) (below_size (be2x7 HB.out GE220.out GE221.out)))
   have n4_ := Aside0.mk (Kd.R_lower (nwx7 (nwx7 (nwx7 ho1 (rRx7 HO229.out)) (rRx7 HO232.out)) (rRx7 HO235.out)) (below_size (be2x7 HB.out GE220.out GE221.out)))
   have n5_ := Aside0.mk (Kd.R_lower (nwx7 (nwx7 (nwx7 ho2 (rRx7 HO229.out)) (rRx7 HO232.out)) (rRx7 HO235.out)) (below_size (be2x7 HB.out GE220.out GE221.out)))
   have n6_ := Aside0.mk (blk_below (g := gb220) (o := .cells #[.int .i64 a0_0, .int .i64 a0_1, .int .i64 a0_2, .slice A0_3 l0_3.length c0_3, .slice A0_4 l0_4.length c0_4, .slice A0_5 l0_5.length c0_5] 26 (0, 0)) (rBx7 BK220.out) hb)
   have n7_ := Aside0.mk (blk_below (g := gb221) (o := .cells #[.int .i64 a1_0, .int .i64 a1_1, .int .i64 a1_2, .slice A1_3 l1_3.length c1_3, .slice A1_4 l1_4.length c1_4, .slice A1_5 l1_5.length c1_5] 26 (0, 0)) (rBx7 BK221.out) hb)
   have n8_ := Aside0.mk (below_step (be2x7 HB.out GE220.out GE221.out) hb)
   clear HO229
   clear HO232
   clear HO235
   clear BK220
   clear BK221
   clear HB
   have HO229 := n0_
   have HO232 := n1_
   have HO235 := n2_
   have HO241 := n3_
   have HO244 := n4_
   have HO247 := n5_
   have BK220 := n6_
   have BK221 := n7_
   have HB := n8_
   clear n0_ n1_ n2_ n3_ n4_ n5_ n6_ n7_ n8_
   (try clear hb)
   (try clear hb2)
   (try clear hk)
   (try clear hi)
   (try clear ho0)
   (try clear ho1)
   (try clear ho2)
   obtain ⟨Ao37, co37, eo37⟩ := Kd.R_slice HO229.out
   (first | subst eo37 | (injection eo37 with f1_ f2_ f3_; have f4_ := f1_.symm; have f5_ := f3_.symm; clear f1_ f2_ f3_; subst f4_; subst f5_))
   obtain ⟨Ao38, co38, eo38⟩ := Kd.R_slice HO232.out
   (first | subst eo38 | (injection eo38 with f1_ f2_ f3_; have f4_ := f1_.symm; have f5_ := f3_.symm; clear f1_ f2_ f3_; subst f4_; subst f5_))
   obtain ⟨Ao39, co39, eo39⟩ := Kd.R_slice HO235.out
   (first | subst eo39 | (injection eo39 with f1_ f2_ f3_; have f4_ := f1_.symm; have f5_ := f3_.symm; clear f1_ f2_ f3_; subst f4_; subst f5_))
   obtain ⟨Ao40, co40, eo40⟩ := Kd.R_slice HO241.out
   (first | subst eo40 | (injection eo40 with f1_ f2_ f3_; have f4_ := f1_.symm; have f5_ := f3_.symm; clear f1_ f2_ f3_; subst f4_; subst f5_))
   obtain ⟨Ao41, co41, eo41⟩ := Kd.R_slice HO244.out
   (first | subst eo41 | (injection eo41 with f1_ f2_ f3_; have f4_ := f1_.symm; have f5_ := f3_.symm; clear f1_ f2_ f3_; subst f4_; subst f5_))
   obtain ⟨Ao42, co42, eo42⟩ := Kd.R_slice HO247.out
   (first | subst eo42 | (injection eo42 with f1_ f2_ f3_; have f4_ := f1_.symm; have f5_ := f3_.symm; clear f1_ f2_ f3_; subst f4_; subst f5_))
   refine hK.out _ _ (ca6x7 BK220.out (cc6x7 BK221.out)) (fun hHeld => ?_)
   clear hK K
   refine norm_ (a' := ?_) ?_ ?_
   rotate_left
   ·show Act.put _ (some 33) _ = _
    simp only [Act.put, List.setIfInBounds_toArray, List.set_cons_zero, List.set_cons_succ, i64_w, i32_w]
    rfl
   refine one_ (i := 5) (N := some 35) #[true, true, true, true, true, true, false, false, false, false, false] rfl rfl (one_of HT_.out (by kernel_rfl)) (by decide) (fun K hK => ?_)
   refine goes_ Try.func38 (by kernel_rfl) rfl #[.agg #[.int .i64 t224, .int .i64 t225, .int .i64 t226, .slice Ao37 t227.length co37, .slice Ao38 t230.length co38, .slice Ao39 t233.length co39], .agg #[.int .i64 t236, .int .i64 t237, .int .i64 t238, .slice Ao40 t239.length co40, .slice Ao41 t242.length co41, .slice Ao42 t245.length co42], .int .i64 a2] (by rfl) rfl rfl mpx7 ?_
   with_reducible refine (spec_SortTable.calls k t224 t225 t226 _ _ t227 _ _ t230 _ _ t233 t236 t237 t238 _ _ t239 _ _ t242 _ _ t245 a2 t248 t251 _ ?side1 ?side2 ?side3 ?side4 ?side5 ?side6 ?side7 ?side8 ?side9 ?side10 ?side11 ?side12 A22.out).mono ?_
   (case side1 => exact cRx7 HO229.out)
   (case side2 => exact (Kd.R_reads' HO229.out).2.1)
   (case side3 => exact cRx7 HO232.out)
   (case side4 => exact (Kd.R_reads' HO232.out).2.1)
   (case side5 => exact cRx7 HO235.out)
   (case side6 => exact (Kd.R_reads' HO235.out).2.1)
   (case side7 => exact cRx7 HO241.out)
   (case side8 => exact (Kd.R_reads' HO241.out).2.1)
   (case side9 => exact cRx7 HO244.out)
   (case side10 => exact (Kd.R_reads' HO244.out).2.1)
   (case side11 => exact cRx7 HO247.out)
   (case side12 => exact (Kd.R_reads' HO247.out).2.1)
   rintro e w43 ⟨v249, rfl, ho0, hb⟩
   refine ⟨_, rfl, ?_⟩
   have n0_ := Aside0.mk (Kd.R_elder' (rRx7 HO229.out) (Kd.R_base ho0) hb)
   have n1_ := Aside0.mk (Kd.R_elder' (rRx7 HO232.out) (Kd.R_base ho0) hb)
   have n2_ := Aside0.mk (Kd.R_elder' (rRx7 HO235.out) (Kd.R_base ho0) hb)
   have n3_ := Aside0.mk (Kd.R_elder' (rRx7 HO241.out) (Kd.R_base ho0) hb)
   have n4_ := Aside0.mk (Kd.R_elder' (rRx7 HO244.out) (Kd.R_base ho0) hb)
   have n5_ := Aside0.mk (Kd.R_elder' (rRx7 HO247.out) (Kd.R_base ho0) hb)
   have n6_ := Aside0.mk (Kd.R_lower (nwx7 (nwx7 (nwx7 (nwx7 (nwx7 (nwx7 ho0 (rRx7 HO229.out)) (rRx7 HO232.out)) (rRx7 HO235.out)) (rRx7 HO241.out)) (rRx7 HO244.out)) (rRx7 HO247.out)) (below_size (be2x7 HB.out GE220.out GE221.out)))
   have n7_ := Aside0.mk (blk_below (g := gb220) (o := .cells #[.int .i64 a0_0, .int .i64 a0_1, .int .i64 a0_2, .slice A0_3 l0_3.length c0_3, .slice A0_4 l0_4.length c0_4, .slice A0_5 l0_5.length c0_5] 26 (0, 0)) (rBx7 BK220.out) hb)
   have n8_ := Aside0.mk (blk_below (g := gb221) (o := .cells #[.int .i64 a1_0, .int .i64 a1_1, .int .i64 a1_2, .slice A1_3 l1_3.length c1_3, .slice A1_4 l1_4.length c1_4, .slice A1_5 l1_5.length c1_5] 26 (0, 0)) (rBx7 BK221.out) hb)
   have n9_ := Aside0.mk (below_step (be2x7 HB.out GE220.out GE221.out) hb)
   clear HO229
   clear HO232
   clear HO235
   clear HO241
   clear HO244
   clear HO247
   clear BK220
   clear BK221
   clear HB
   have HO229 := n0_
   have HO232 := n1_
   have HO235 := n2_
   have HO241 := n3_
   have HO244 := n4_
   have HO247 := n5_
   have HO250 := n6_
   have BK220 := n7_
   have BK221 := n8_
   have HB := n9_
   clear n0_ n1_ n2_ n3_ n4_ n5_ n6_ n7_ n8_ n9_
   (try clear hb)
   (try clear hb2)
   (try clear hk)
   (try clear hi)
   (try clear ho0)
   refine hK.out _ _ (ca6x7 BK220.out (cc6x7 BK221.out)) (fun hHeld => ?_)
   clear hK K
   refine norm_ (a' := ?_) ?_ ?_
   rotate_left
   ·show Act.put _ (some 35) _ = _
    simp only [Act.put, List.setIfInBounds_toArray, List.set_cons_zero, List.set_cons_succ, i64_w, i32_w]
    rfl
   refine pure_ (i := 6) (N := some 29) (v := ?_) (a' := ?_) #[true, true, true, true, true, true, true, false, false, false, false] rfl rfl (any_of HT_.out (by kernel_rfl)) (fun _ _ _ h => h) (Or.inl ⟨by rfl, ?_⟩) ?_ ?_
   rotate_left
   ·intro w'
    go_simp
    with_reducible rfl
   rotate_left
   ·simp only [Act.put, List.setIfInBounds_toArray, List.set_cons_zero, List.set_cons_succ, i64_w, i32_w]
    rfl
   refine pure_ (i := 7) (N := some 36) (v := ?_) (a' := ?_) #[true, true, true, true, true, true, true, true, false, false, false] rfl rfl (any_of HT_.out (by kernel_rfl)) (fun _ _ _ h => h) (Or.inl ⟨by rfl, ?_⟩) ?_ ?_
   rotate_left
   ·intro w'
    go_simp
    with_reducible rfl
   rotate_left
   ·simp only [Act.put, List.setIfInBounds_toArray, List.set_cons_zero, List.set_cons_succ, i64_w, i32_w]
    rfl
   refine pure_ (i := 8) (N := some 37) (v := ?_) (a' := ?_) #[true, true, true, true, true, true, true, true, true, false, false] rfl rfl (any_of HT_.out (by kernel_rfl)) (fun _ _ _ h => h) (Or.inl ⟨by rfl, ?_⟩) ?_ ?_
   rotate_left
   ·intro w'
    go_simp
    with_reducible rfl
   rotate_left
   ·simp only [Act.put, List.setIfInBounds_toArray, List.set_cons_zero, List.set_cons_succ, i64_w, i32_w]
    rfl
   refine pure_ (i := 9) (N := some 8) (v := ?_) (a' := ?_) #[true, true, true, true, true, true, true, true, true, true, false] rfl rfl (any_of HT_.out (by kernel_rfl)) (fun _ _ _ h => h) (Or.inl ⟨by rfl, ?_⟩) ?_ ?_
   rotate_left
   ·intro w'
    go_simp
    with_reducible rfl
   rotate_left
   ·simp only [Act.put, List.setIfInBounds_toArray, List.set_cons_zero, List.set_cons_succ, i64_w, i32_w]
    rfl
   refine pure_ (i := 10) (N := some 9) (v := ?_) (a' := ?_) #[true, true, true, true, true, true, true, true, true, true, true] rfl rfl (any_of HT_.out (by kernel_rfl)) (fun _ _ _ h => h) (Or.inl ⟨by rfl, ?_⟩) ?_ ?_
   rotate_left
   ·intro w'
    go_simp
    with_reducible rfl
   rotate_left
   ·simp only [Act.put, List.setIfInBounds_toArray, List.set_cons_zero, List.set_cons_succ, i64_w, i32_w]
    rfl
   refine done_ (done_of HT_.out (by kernel_rfl)) ?_
   obtain ⟨hcz44_0, hcz44_1, hcz44_2, hcz44_3, hcz44_4, hcz44_5, hfz44_0, hfz44_1, hfz44_2, hfz44_3, hfz44_4, hfz44_5⟩ := cf6x7 BK220.out
   go_upto_region 12 with (first | ((with_reducible refine gate_callee (f := 19) rfl ?_); refine goesL_ (some 39) rfl rfl Try.func19 (by kernel_rfl) rfl #[.agg #[.int .i64 a0_0, .int .i64 a0_1, .int .i64 a0_2, .slice A0_3 l0_3.length c0_3, .slice A0_4 l0_4.length c0_4, .slice A0_5 l0_5.length c0_5]] rfl mpx7 ?_; (with_reducible refine (laws_toModel.calls k a0_0 a0_1 a0_2 _ _ l0_3 _ _ l0_4 _ _ l0_5 t252 t253 t254 t255 t258 t261 _ ?side1 ?side2 ?side3 ?side4 ?side5 ?side6 A23.out).mono ?_); (case side1 => exact rCx7 (Kd.C_below HR0_3.out HB.out)); (case side2 => exact HC0_3.out); (case side3 => exact rCx7 (Kd.C_below HR0_4.out HB.out)); (case side4 => exact HC0_4.out); (case side5 => exact rCx7 (Kd.C_below HR0_5.out HB.out)); (case side6 => exact HC0_5.out); rintro e w45 ⟨v256, v259, v262, rfl, ho0, ho1, ho2, hb⟩; refine ⟨_, rfl, ?_⟩; have HO257 := Aside0.mk (Kd.R_lower (nwx7 (nwx7 (nwx7 (nwx7 (nwx7 (nwx7 (nwx7 ho0 (rRx7 HO229.out)) (rRx7 HO232.out)) (rRx7 HO235.out)) (rRx7 HO241.out)) (rRx7 HO244.out)) (rRx7 HO247.out)) (rRx7 HO250.out)) (below_size (be2x7 HB.out GE220.out GE221.out))); have HO260 := Aside0.mk (Kd.R_lower (nwx7 (nwx7 (nwx7 (nwx7 (nwx7 (nwx7 (nwx7 ho1 (rRx7 HO229.out)) (rRx7 HO232.out)) (rRx7 HO235.out)) (rRx7 HO241.out)) (rRx7 HO244.out)) (rRx7 HO247.out)) (rRx7 HO250.out)) (below_size (be2x7 HB.out GE220.out GE221.out))); have HO263 := Aside0.mk (Kd.R_lower (nwx7 (nwx7 (nwx7 (nwx7 (nwx7 (nwx7 (nwx7 ho2 (rRx7 HO229.out)) (rRx7 HO232.out)) (rRx7 HO235.out)) (rRx7 HO241.out)) (rRx7 HO244.out)) (rRx7 HO247.out)) (rRx7 HO250.out)) (below_size (be2x7 HB.out GE220.out GE221.out))); replace HO229 := Aside0.mk (kp3x7 (rRx7 HO229.out) hb ho0 ho1 ho2); replace HO232 := Aside0.mk (kp3x7 (rRx7 HO232.out) hb ho0 ho1 ho2); replace HO235 := Aside0.mk (kp3x7 (rRx7 HO235.out) hb ho0 ho1 ho2); replace HO241 := Aside0.mk (kp3x7 (rRx7 HO241.out) hb ho0 ho1 ho2); replace HO244 := Aside0.mk (kp3x7 (rRx7 HO244.out) hb ho0 ho1 ho2); replace HO247 := Aside0.mk (kp3x7 (rRx7 HO247.out) hb ho0 ho1 ho2); replace HO250 := Aside0.mk (kp3x7 (rRx7 HO250.out) hb ho0 ho1 ho2); replace BK220 := Aside0.mk (blk_below (g := gb220) (o := .cells #[.int .i64 a0_0, .int .i64 a0_1, .int .i64 a0_2, .slice A0_3 l0_3.length c0_3, .slice A0_4 l0_4.length c0_4, .slice A0_5 l0_5.length c0_5] 26 (0, 0)) (rBx7 BK220.out) hb); replace BK221 := Aside0.mk (blk_below (g := gb221) (o := .cells #[.int .i64 a1_0, .int .i64 a1_1, .int .i64 a1_2, .slice A1_3 l1_3.length c1_3, .slice A1_4 l1_4.length c1_4, .slice A1_5 l1_5.length c1_5] 26 (0, 0)) (rBx7 BK221.out) hb); replace HB := Aside0.mk (below_step (be2x7 HB.out GE220.out GE221.out) hb); (try clear hb); (try clear hb2); (try clear hk); (try clear hi); (try clear ho0); (try clear ho1); (try clear ho2)) | ((with_reducible refine gate_dst (N := 10) rfl ?_); refine box_event ?hg (N := 10) ?hd (cs := #[.int .i64 0, .int .i64 0, .int .i64 0, .slice none 0 0, .slice none 0 0, .slice none 0 0]) (t := 41) ?hr ?_; (case hd => rfl); (case hg => rfl); (case hr => first | (go_simp; done) | (go_simp; rfl)); intro gb264 hg w46 hbox hb; replace HO229 := Aside0.mk (Kd.R_below (rRx7 HO229.out) hb); replace HO232 := Aside0.mk (Kd.R_below (rRx7 HO232.out) hb); replace HO235 := Aside0.mk (Kd.R_below (rRx7 HO235.out) hb); replace HO241 := Aside0.mk (Kd.R_below (rRx7 HO241.out) hb); replace HO244 := Aside0.mk (Kd.R_below (rRx7 HO244.out) hb); replace HO247 := Aside0.mk (Kd.R_below (rRx7 HO247.out) hb); replace HO250 := Aside0.mk (Kd.R_below (rRx7 HO250.out) hb); replace HO257 := Aside0.mk (Kd.R_below (rRx7 HO257.out) hb); replace HO260 := Aside0.mk (Kd.R_below (rRx7 HO260.out) hb); replace HO263 := Aside0.mk (Kd.R_below (rRx7 HO263.out) hb); have BK264 := Aside0.mk (hbox); have GW264 := Aside0.mk ((by rw [hg]; exact (below_size (be2x7 HB.out GE220.out GE221.out)) : w.heap.size ≤ gb264)); have GE264 := Aside0.mk ((by rw [hg]; exact (below_size (be2x7 HB.out GE220.out GE221.out)) : w.heap.size ≤ gb264)); replace HB := Aside0.mk (below_step (be2x7 HB.out GE220.out GE221.out) hb); have NB220_264 := Aside0.mk ((by rw [hg]; exact Nat.ne_of_lt (blk_lt (g := gb220) (o := .cells #[.int .i64 a0_0, .int .i64 a0_1, .int .i64 a0_2, .slice A0_3 l0_3.length c0_3, .slice A0_4 l0_4.length c0_4, .slice A0_5 l0_5.length c0_5] 26 (0, 0)) (rBx7 BK220.out)) : gb220 ≠ gb264)); have NB264_220 := Aside0.mk ((by rw [hg]; exact Nat.ne_of_gt (blk_lt (g := gb220) (o := .cells #[.int .i64 a0_0, .int .i64 a0_1, .int .i64 a0_2, .slice A0_3 l0_3.length c0_3, .slice A0_4 l0_4.length c0_4, .slice A0_5 l0_5.length c0_5] 26 (0, 0)) (rBx7 BK220.out)) : gb264 ≠ gb220)); replace BK220 := Aside0.mk (blk_below (g := gb220) (o := .cells #[.int .i64 a0_0, .int .i64 a0_1, .int .i64 a0_2, .slice A0_3 l0_3.length c0_3, .slice A0_4 l0_4.length c0_4, .slice A0_5 l0_5.length c0_5] 26 (0, 0)) (rBx7 BK220.out) hb); have NB221_264 := Aside0.mk ((by rw [hg]; exact Nat.ne_of_lt (blk_lt (g := gb221) (o := .cells #[.int .i64 a1_0, .int .i64 a1_1, .int .i64 a1_2, .slice A1_3 l1_3.length c1_3, .slice A1_4 l1_4.length c1_4, .slice A1_5 l1_5.length c1_5] 26 (0, 0)) (rBx7 BK221.out)) : gb221 ≠ gb264)); have NB264_221 := Aside0.mk ((by rw [hg]; exact Nat.ne_of_gt (blk_lt (g := gb221) (o := .cells #[.int .i64 a1_0, .int .i64 a1_1, .int .i64 a1_2, .slice A1_3 l1_3.length c1_3, .slice A1_4 l1_4.length c1_4, .slice A1_5 l1_5.length c1_5] 26 (0, 0)) (rBx7 BK221.out)) : gb264 ≠ gb221)); replace BK221 := Aside0.mk (blk_below (g := gb221) (o := .cells #[.int .i64 a1_0, .int .i64 a1_1, .int .i64 a1_2, .slice A1_3 l1_3.length c1_3, .slice A1_4 l1_4.length c1_4, .slice A1_5 l1_5.length c1_5] 26 (0, 0)) (rBx7 BK221.out) hb); clear hb hbox hg; have hnb47 := NB264_220.out; have hnc47 := NB220_264.out; have hnb48 := NB264_221.out; have hnc48 := NB221_264.out; obtain ⟨hcz49_0, hcz49_1, hcz49_2, hcz49_3, hcz49_4, hcz49_5, hfz49_0, hfz49_1, hfz49_2, hfz49_3, hfz49_4, hfz49_5⟩ := cf6x7 BK264.out; obtain ⟨Ao50, co50, eo50⟩ := Kd.R_slice HO257.out; subst eo50; obtain ⟨Ao51, co51, eo51⟩ := Kd.R_slice HO260.out; subst eo51; obtain ⟨Ao52, co52, eo52⟩ := Kd.R_slice HO263.out; subst eo52; obtain ⟨hcz53_0, hcz53_1, hcz53_2, hcz53_3, hcz53_4, hcz53_5, hfz53_0, hfz53_1, hfz53_2, hfz53_3, hfz53_4, hfz53_5⟩ := cf6x7 BK221.out) | ((with_reducible refine gate_callee (f := 19) rfl ?_); refine goesL_ (some 41) rfl rfl Try.func19 (by kernel_rfl) rfl #[.agg #[.int .i64 a1_0, .int .i64 a1_1, .int .i64 a1_2, .slice A1_3 l1_3.length c1_3, .slice A1_4 l1_4.length c1_4, .slice A1_5 l1_5.length c1_5]] rfl mpx7 ?_; (with_reducible refine (laws_toModel.calls k a1_0 a1_1 a1_2 _ _ l1_3 _ _ l1_4 _ _ l1_5 t265 t266 t267 t268 t271 t274 _ ?side1 ?side2 ?side3 ?side4 ?side5 ?side6 A24.out).mono ?_); (case side1 => exact Kd.C_below HR1_3.out (be3x7 HB.out GE220.out GE221.out GE264.out)); (case side2 => exact HC1_3.out); (case side3 => exact Kd.C_below HR1_4.out (be3x7 HB.out GE220.out GE221.out GE264.out)); (case side4 => exact HC1_4.out); (case side5 => exact Kd.C_below HR1_5.out (be3x7 HB.out GE220.out GE221.out GE264.out)); (case side6 => exact HC1_5.out); rintro e w54 ⟨v269, v272, v275, rfl, ho0, ho1, ho2, hb⟩; refine ⟨_, rfl, ?_⟩; have HO270 := Aside0.mk (Kd.R_lower (nwx7 (nwx7 (nwx7 (nwx7 (nwx7 (nwx7 (nwx7 (nwx7 (nwx7 (nwx7 ho0 (sR6x7 HO229.out BK264.out)) (sR6x7 HO232.out BK264.out)) (sR6x7 HO235.out BK264.out)) (sR6x7 HO241.out BK264.out)) (sR6x7 HO244.out BK264.out)) (sR6x7 HO247.out BK264.out)) (sR6x7 HO250.out BK264.out)) (sR6x7 HO257.out BK264.out)) (sR6x7 HO260.out BK264.out)) (sR6x7 HO263.out BK264.out)) (below_size (be3x7 HB.out GE220.out GE221.out GE264.out))); have HO273 := Aside0.mk (Kd.R_lower (nwx7 (nwx7 (nwx7 (nwx7 (nwx7 (nwx7 (nwx7 (nwx7 (nwx7 (nwx7 ho1 (sR6x7 HO229.out BK264.out)) (sR6x7 HO232.out BK264.out)) (sR6x7 HO235.out BK264.out)) (sR6x7 HO241.out BK264.out)) (sR6x7 HO244.out BK264.out)) (sR6x7 HO247.out BK264.out)) (sR6x7 HO250.out BK264.out)) (sR6x7 HO257.out BK264.out)) (sR6x7 HO260.out BK264.out)) (sR6x7 HO263.out BK264.out)) (below_size (be3x7 HB.out GE220.out GE221.out GE264.out))); have HO276 := Aside0.mk (Kd.R_lower (nwx7 (nwx7 (nwx7 (nwx7 (nwx7 (nwx7 (nwx7 (nwx7 (nwx7 (nwx7 ho2 (sR6x7 HO229.out BK264.out)) (sR6x7 HO232.out BK264.out)) (sR6x7 HO235.out BK264.out)) (sR6x7 HO241.out BK264.out)) (sR6x7 HO244.out BK264.out)) (sR6x7 HO247.out BK264.out)) (sR6x7 HO250.out BK264.out)) (sR6x7 HO257.out BK264.out)) (sR6x7 HO260.out BK264.out)) (sR6x7 HO263.out BK264.out)) (below_size (be3x7 HB.out GE220.out GE221.out GE264.out))); replace HO229 := Aside0.mk (kp3x7 (sR6x7 HO229.out BK264.out) hb ho0 ho1 ho2); replace HO232 := Aside0.mk (kp3x7 (sR6x7 HO232.out BK264.out) hb ho0 ho1 ho2); replace HO235 := Aside0.mk (kp3x7 (sR6x7 HO235.out BK264.out) hb ho0 ho1 ho2); replace HO241 := Aside0.mk (kp3x7 (sR6x7 HO241.out BK264.out) hb ho0 ho1 ho2); replace HO244 := Aside0.mk (kp3x7 (sR6x7 HO244.out BK264.out) hb ho0 ho1 ho2); replace HO247 := Aside0.mk (kp3x7 (sR6x7 HO247.out BK264.out) hb ho0 ho1 ho2); replace HO250 := Aside0.mk (kp3x7 (sR6x7 HO250.out BK264.out) hb ho0 ho1 ho2); replace HO257 := Aside0.mk (kp3x7 (sR6x7 HO257.out BK264.out) hb ho0 ho1 ho2); replace HO260 := Aside0.mk (kp3x7 (sR6x7 HO260.out BK264.out) hb ho0 ho1 ho2); replace HO263 := Aside0.mk (kp3x7 (sR6x7 HO263.out BK264.out) hb ho0 ho1 ho2); replace BK220 := Aside0.mk (blk_below (g := gb220) (o := .cells #[.int .i64 a0_0, .int .i64 a0_1, .int .i64 a0_2, .slice A0_3 l0_3.length c0_3, .slice A0_4 l0_4.length c0_4, .slice A0_5 l0_5.length c0_5] 26 (0, 0)) (bb6x7 BK220.out NB220_264.out) hb); replace BK221 := Aside0.mk (blk_below (g := gb221) (o := .cells #[.int .i64 a1_0, .int .i64 a1_1, .int .i64 a1_2, .slice A1_3 l1_3.length c1_3, .slice A1_4 l1_4.length c1_4, .slice A1_5 l1_5.length c1_5] 26 (0, 0)) (bb6x7 BK221.out NB221_264.out) hb); replace BK264 := Aside0.mk (blk_below (g := gb264) (o := .cells #[.int .i64 t252, .int .i64 t253, .int .i64 t254, .slice Ao50 t255.length co50, .slice Ao51 t258.length co51, .slice Ao52 t261.length co52] 41 (0, 0)) (by (with_reducible repeat (first | refine blk_drewN ?_ _ | refine blk_drew ?_ | refine blk_alloc ?_ _)); refine blk_put (cs := #[.int .i64 t252, .int .i64 t253, .int .i64 t254, .slice Ao50 t255.length co50, .slice Ao51 t258.length co51, .slice none 0 0]) ?_ 5 _ rfl; (with_reducible repeat (first | refine blk_drewN ?_ _ | refine blk_drew ?_ | refine blk_alloc ?_ _)); refine blk_put (cs := #[.int .i64 t252, .int .i64 t253, .int .i64 t254, .slice Ao50 t255.length co50, .slice none 0 0, .slice none 0 0]) ?_ 4 _ rfl; (with_reducible repeat (first | refine blk_drewN ?_ _ | refine blk_drew ?_ | refine blk_alloc ?_ _)); refine blk_put (cs := #[.int .i64 t252, .int .i64 t253, .int .i64 t254, .slice none 0 0, .slice none 0 0, .slice none 0 0]) ?_ 3 _ rfl; (with_reducible repeat (first | refine blk_drewN ?_ _ | refine blk_drew ?_ | refine blk_alloc ?_ _)); refine blk_put (cs := #[.int .i64 t252, .int .i64 t253, .int .i64 0, .slice none 0 0, .slice none 0 0, .slice none 0 0]) ?_ 2 _ rfl; (with_reducible repeat (first | refine blk_drewN ?_ _ | refine blk_drew ?_ | refine blk_alloc ?_ _)); refine blk_put (cs := #[.int .i64 t252, .int .i64 0, .int .i64 0, .slice none 0 0, .slice none 0 0, .slice none 0 0]) ?_ 1 _ rfl; (with_reducible repeat (first | refine blk_drewN ?_ _ | refine blk_drew ?_ | refine blk_alloc ?_ _)); refine blk_put (cs := #[.int .i64 0, .int .i64 0, .int .i64 0, .slice none 0 0, .slice none 0 0, .slice none 0 0]) ?_ 0 _ rfl; (with_reducible repeat (first | refine blk_drewN ?_ _ | refine blk_drew ?_ | refine blk_alloc ?_ _)); exact BK264.out) hb); replace HB := Aside0.mk (below_step (be3x7 HB.out GE220.out GE221.out GE264.out) hb); (try clear hb); (try clear hb2); (try clear hk); (try clear hi); (try clear ho0); (try clear ho1); (try clear ho2)) | ((with_reducible refine gate_dst (N := 11) rfl ?_); refine box_event ?hg (N := 11) ?hd (cs := #[.int .i64 0, .int .i64 0, .int .i64 0, .slice none 0 0, .slice none 0 0, .slice none 0 0]) (t := 41) ?hr ?_; (case hd => rfl); (case hg => rfl); (case hr => first | (go_simp; done) | (go_simp; rfl)); intro gb277 hg w55 hbox hb; replace HO229 := Aside0.mk (Kd.R_below (rRx7 HO229.out) hb); replace HO232 := Aside0.mk (Kd.R_below (rRx7 HO232.out) hb); replace HO235 := Aside0.mk (Kd.R_below (rRx7 HO235.out) hb); replace HO241 := Aside0.mk (Kd.R_below (rRx7 HO241.out) hb); replace HO244 := Aside0.mk (Kd.R_below (rRx7 HO244.out) hb); replace HO247 := Aside0.mk (Kd.R_below (rRx7 HO247.out) hb); replace HO250 := Aside0.mk (Kd.R_below (rRx7 HO250.out) hb); replace HO257 := Aside0.mk (Kd.R_below (rRx7 HO257.out) hb); replace HO260 := Aside0.mk (Kd.R_below (rRx7 HO260.out) hb); replace HO263 := Aside0.mk (Kd.R_below (rRx7 HO263.out) hb); replace HO270 := Aside0.mk (Kd.R_below (rRx7 HO270.out) hb); replace HO273 := Aside0.mk (Kd.R_below (rRx7 HO273.out) hb); replace HO276 := Aside0.mk (Kd.R_below (rRx7 HO276.out) hb); have BK277 := Aside0.mk (hbox); have GW277 := Aside0.mk ((by rw [hg]; exact (below_size (be3x7 HB.out GE220.out GE221.out GE264.out)) : w.heap.size ≤ gb277)); have GE277 := Aside0.mk ((by rw [hg]; exact (below_size (be3x7 HB.out GE220.out GE221.out GE264.out)) : w.heap.size ≤ gb277)); replace HB := Aside0.mk (below_step (be3x7 HB.out GE220.out GE221.out GE264.out) hb); have NB220_277 := Aside0.mk ((by rw [hg]; exact Nat.ne_of_lt (blk_lt (g := gb220) (o := .cells #[.int .i64 a0_0, .int .i64 a0_1, .int .i64 a0_2, .slice A0_3 l0_3.length c0_3, .slice A0_4 l0_4.length c0_4, .slice A0_5 l0_5.length c0_5] 26 (0, 0)) (rBx7 BK220.out)) : gb220 ≠ gb277)); have NB277_220 := Aside0.mk ((by rw [hg]; exact Nat.ne_of_gt (blk_lt (g := gb220) (o := .cells #[.int .i64 a0_0, .int .i64 a0_1, .int .i64 a0_2, .slice A0_3 l0_3.length c0_3, .slice A0_4 l0_4.length c0_4, .slice A0_5 l0_5.length c0_5] 26 (0, 0)) (rBx7 BK220.out)) : gb277 ≠ gb220)); replace BK220 := Aside0.mk (blk_below (g := gb220) (o := .cells #[.int .i64 a0_0, .int .i64 a0_1, .int .i64 a0_2, .slice A0_3 l0_3.length c0_3, .slice A0_4 l0_4.length c0_4, .slice A0_5 l0_5.length c0_5] 26 (0, 0)) (rBx7 BK220.out) hb); have NB221_277 := Aside0.mk ((by rw [hg]; exact Nat.ne_of_lt (blk_lt (g := gb221) (o := .cells #[.int .i64 a1_0, .int .i64 a1_1, .int .i64 a1_2, .slice A1_3 l1_3.length c1_3, .slice A1_4 l1_4.length c1_4, .slice A1_5 l1_5.length c1_5] 26 (0, 0)) (rBx7 BK221.out)) : gb221 ≠ gb277)); have NB277_221 := Aside0.mk ((by rw [hg]; exact Nat.ne_of_gt (blk_lt (g := gb221) (o := .cells #[.int .i64 a1_0, .int .i64 a1_1, .int .i64 a1_2, .slice A1_3 l1_3.length c1_3, .slice A1_4 l1_4.length c1_4, .slice A1_5 l1_5.length c1_5] 26 (0, 0)) (rBx7 BK221.out)) : gb277 ≠ gb221)); replace BK221 := Aside0.mk (blk_below (g := gb221) (o := .cells #[.int .i64 a1_0, .int .i64 a1_1, .int .i64 a1_2, .slice A1_3 l1_3.length c1_3, .slice A1_4 l1_4.length c1_4, .slice A1_5 l1_5.length c1_5] 26 (0, 0)) (rBx7 BK221.out) hb); have NB264_277 := Aside0.mk ((by rw [hg]; exact Nat.ne_of_lt (blk_lt (g := gb264) (o := .cells #[.int .i64 t252, .int .i64 t253, .int .i64 t254, .slice Ao50 t255.length co50, .slice Ao51 t258.length co51, .slice Ao52 t261.length co52] 41 (0, 0)) (rBx7 BK264.out)) : gb264 ≠ gb277)); have NB277_264 := Aside0.mk ((by rw [hg]; exact Nat.ne_of_gt (blk_lt (g := gb264) (o := .cells #[.int .i64 t252, .int .i64 t253, .int .i64 t254, .slice Ao50 t255.length co50, .slice Ao51 t258.length co51, .slice Ao52 t261.length co52] 41 (0, 0)) (rBx7 BK264.out)) : gb277 ≠ gb264)); replace BK264 := Aside0.mk (blk_below (g := gb264) (o := .cells #[.int .i64 t252, .int .i64 t253, .int .i64 t254, .slice Ao50 t255.length co50, .slice Ao51 t258.length co51, .slice Ao52 t261.length co52] 41 (0, 0)) (rBx7 BK264.out) hb); clear hb hbox hg; have hnb56 := NB277_220.out; have hnc56 := NB220_277.out; have hnb57 := NB277_221.out; have hnc57 := NB221_277.out; have hnb58 := NB277_264.out; have hnc58 := NB264_277.out; obtain ⟨hcz59_0, hcz59_1, hcz59_2, hcz59_3, hcz59_4, hcz59_5, hfz59_0, hfz59_1, hfz59_2, hfz59_3, hfz59_4, hfz59_5⟩ := cf6x7 BK277.out; obtain ⟨Ao60, co60, eo60⟩ := Kd.R_slice HO270.out; subst eo60; obtain ⟨Ao61, co61, eo61⟩ := Kd.R_slice HO273.out; subst eo61; obtain ⟨Ao62, co62, eo62⟩ := Kd.R_slice HO276.out; subst eo62; obtain ⟨hcz63_0, hcz63_1, hcz63_2, hcz63_3, hcz63_4, hcz63_5, hfz63_0, hfz63_1, hfz63_2, hfz63_3, hfz63_4, hfz63_5⟩ := cf6x7 BK264.out) | ((with_reducible refine gate_callee (f := 39) rfl ?_); refine goesL_ (some 46) rfl rfl Try.func39 (by kernel_rfl) rfl #[.agg #[.int .i64 t252, .int .i64 t253, .int .i64 t254, .slice Ao50 t255.length co50, .slice Ao51 t258.length co51, .slice Ao52 t261.length co52], .agg #[.int .i64 t265, .int .i64 t266, .int .i64 t267, .slice Ao60 t268.length co60, .slice Ao61 t271.length co61, .slice Ao62 t274.length co62], .int .i64 a2] rfl mpx7 ?_; (with_reducible refine (impl_SortTable.calls k t252 t253 t254 _ _ t255 _ _ t258 _ _ t261 t265 t266 t267 _ _ t268 _ _ t271 _ _ t274 a2 t278 t281 _ ?side1 ?side2 ?side3 ?side4 ?side5 ?side6 ?side7 ?side8 ?side9 ?side10 ?side11 ?side12 A25.out).mono ?_); (case side1 => exact cS6x7 HO257.out BK277.out); (case side2 => exact (Kd.R_reads' HO257.out).2.1); (case side3 => exact cS6x7 HO260.out BK277.out); (case side4 => exact (Kd.R_reads' HO260.out).2.1); (case side5 => exact cS6x7 HO263.out BK277.out); (case side6 => exact (Kd.R_reads' HO263.out).2.1); (case side7 => exact cS6x7 HO270.out BK277.out); (case side8 => exact (Kd.R_reads' HO270.out).2.1); (case side9 => exact cS6x7 HO273.out BK277.out); (case side10 => exact (Kd.R_reads' HO273.out).2.1); (case side11 => exact cS6x7 HO276.out BK277.out); (case side12 => exact (Kd.R_reads' HO276.out).2.1); rintro e w64 ⟨v279, rfl, ho0, hb⟩; refine ⟨_, rfl, ?_⟩; have HO280 := Aside0.mk (Kd.R_lower (nwx7 (nwx7 (nwx7 (nwx7 (nwx7 (nwx7 (nwx7 (nwx7 (nwx7 (nwx7 (nwx7 (nwx7 (nwx7 ho0 (sR6x7 HO229.out BK277.out)) (sR6x7 HO232.out BK277.out)) (sR6x7 HO235.out BK277.out)) (sR6x7 HO241.out BK277.out)) (sR6x7 HO244.out BK277.out)) (sR6x7 HO247.out BK277.out)) (sR6x7 HO250.out BK277.out)) (sR6x7 HO257.out BK277.out)) (sR6x7 HO260.out BK277.out)) (sR6x7 HO263.out BK277.out)) (sR6x7 HO270.out BK277.out)) (sR6x7 HO273.out BK277.out)) (sR6x7 HO276.out BK277.out)) (below_size (be4x7 HB.out GE220.out GE221.out GE264.out GE277.out))); replace HO229 := Aside0.mk (Kd.R_elder' (sR6x7 HO229.out BK277.out) (Kd.R_base ho0) hb); replace HO232 := Aside0.mk (Kd.R_elder' (sR6x7 HO232.out BK277.out) (Kd.R_base ho0) hb); replace HO235 := Aside0.mk (Kd.R_elder' (sR6x7 HO235.out BK277.out) (Kd.R_base ho0) hb); replace HO241 := Aside0.mk (Kd.R_elder' (sR6x7 HO241.out BK277.out) (Kd.R_base ho0) hb); replace HO244 := Aside0.mk (Kd.R_elder' (sR6x7 HO244.out BK277.out) (Kd.R_base ho0) hb); replace HO247 := Aside0.mk (Kd.R_elder' (sR6x7 HO247.out BK277.out) (Kd.R_base ho0) hb); replace HO250 := Aside0.mk (Kd.R_elder' (sR6x7 HO250.out BK277.out) (Kd.R_base ho0) hb); replace HO257 := Aside0.mk (Kd.R_elder' (sR6x7 HO257.out BK277.out) (Kd.R_base ho0) hb); replace HO260 := Aside0.mk (Kd.R_elder' (sR6x7 HO260.out BK277.out) (Kd.R_base ho0) hb); replace HO263 := Aside0.mk (Kd.R_elder' (sR6x7 HO263.out BK277.out) (Kd.R_base ho0) hb); replace HO270 := Aside0.mk (Kd.R_elder' (sR6x7 HO270.out BK277.out) (Kd.R_base ho0) hb); replace HO273 := Aside0.mk (Kd.R_elder' (sR6x7 HO273.out BK277.out) (Kd.R_base ho0) hb); replace HO276 := Aside0.mk (Kd.R_elder' (sR6x7 HO276.out BK277.out) (Kd.R_base ho0) hb); replace BK220 := Aside0.mk (blk_below (g := gb220) (o := .cells #[.int .i64 a0_0, .int .i64 a0_1, .int .i64 a0_2, .slice A0_3 l0_3.length c0_3, .slice A0_4 l0_4.length c0_4, .slice A0_5 l0_5.length c0_5] 26 (0, 0)) (bb6x7 BK220.out NB220_277.out) hb); replace BK221 := Aside0.mk (blk_below (g := gb221) (o := .cells #[.int .i64 a1_0, .int .i64 a1_1, .int .i64 a1_2, .slice A1_3 l1_3.length c1_3, .slice A1_4 l1_4.length c1_4, .slice A1_5 l1_5.length c1_5] 26 (0, 0)) (bb6x7 BK221.out NB221_277.out) hb); replace BK264 := Aside0.mk (blk_below (g := gb264) (o := .cells #[.int .i64 t252, .int .i64 t253, .int .i64 t254, .slice Ao50 t255.length co50, .slice Ao51 t258.length co51, .slice Ao52 t261.length co52] 41 (0, 0)) (bb6x7 BK264.out NB264_277.out) hb); replace BK277 := Aside0.mk (blk_below (g := gb277) (o := .cells #[.int .i64 t265, .int .i64 t266, .int .i64 t267, .slice Ao60 t268.length co60, .slice Ao61 t271.length co61, .slice Ao62 t274.length co62] 41 (0, 0)) (by (with_reducible repeat (first | refine blk_drewN ?_ _ | refine blk_drew ?_ | refine blk_alloc ?_ _)); refine blk_put (cs := #[.int .i64 t265, .int .i64 t266, .int .i64 t267, .slice Ao60 t268.length co60, .slice Ao61 t271.length co61, .slice none 0 0]) ?_ 5 _ rfl; (with_reducible repeat (first | refine blk_drewN ?_ _ | refine blk_drew ?_ | refine blk_alloc ?_ _)); refine blk_put (cs := #[.int .i64 t265, .int .i64 t266, .int .i64 t267, .slice Ao60 t268.length co60, .slice none 0 0, .slice none 0 0]) ?_ 4 _ rfl; (with_reducible repeat (first | refine blk_drewN ?_ _ | refine blk_drew ?_ | refine blk_alloc ?_ _)); refine blk_put (cs := #[.int .i64 t265, .int .i64 t266, .int .i64 t267, .slice none 0 0, .slice none 0 0, .slice none 0 0]) ?_ 3 _ rfl; (with_reducible repeat (first | refine blk_drewN ?_ _ | refine blk_drew ?_ | refine blk_alloc ?_ _)); refine blk_put (cs := #[.int .i64 t265, .int .i64 t266, .int .i64 0, .slice none 0 0, .slice none 0 0, .slice none 0 0]) ?_ 2 _ rfl; (with_reducible repeat (first | refine blk_drewN ?_ _ | refine blk_drew ?_ | refine blk_alloc ?_ _)); refine blk_put (cs := #[.int .i64 t265, .int .i64 0, .int .i64 0, .slice none 0 0, .slice none 0 0, .slice none 0 0]) ?_ 1 _ rfl; (with_reducible repeat (first | refine blk_drewN ?_ _ | refine blk_drew ?_ | refine blk_alloc ?_ _)); refine blk_put (cs := #[.int .i64 0, .int .i64 0, .int .i64 0, .slice none 0 0, .slice none 0 0, .slice none 0 0]) ?_ 0 _ rfl; (with_reducible repeat (first | refine blk_drewN ?_ _ | refine blk_drew ?_ | refine blk_alloc ?_ _)); exact BK277.out) hb); replace HB := Aside0.mk (below_step (be4x7 HB.out GE220.out GE221.out GE264.out GE277.out) hb); (try clear hb); (try clear hb2); (try clear hk); (try clear hi); (try clear ho0)))
   (try simp only [Act.put, List.setIfInBounds_toArray, List.set_cons_zero, List.set_cons_succ])
   go_cut [57] (fun v57 wc => ∃ (kq : Nat) (x57_25 : Bool), v57 = .bool x57_25 ∧ Aside0 (laws_FnExactSortTable.j0 kq a2 t248 t251 t278 t281 x57_25 a0_0 a0_1 a0_2 l0_3 l0_4 l0_5 a1_0 a1_1 a1_2 l1_3 l1_4 l1_5 t252 t253 t254 t255 t258 t261 t265 t266 t267 t268 t271 t274 = some r) ∧ Aside0 (kq ≤ k) ∧ Aside0 (Kd.R (Kd.int .i64) 3 wc w.heap.size (fun k_ => some k_ ≠ (v279 : Value).ownBlock ∧ some k_ ≠ ((.slice Ao50 t255.length co50) : Value).ownBlock ∧ some k_ ≠ ((.slice Ao51 t258.length co51) : Value).ownBlock ∧ some k_ ≠ ((.slice Ao52 t261.length co52) : Value).ownBlock ∧ some k_ ≠ ((.slice Ao60 t268.length co60) : Value).ownBlock ∧ some k_ ≠ ((.slice Ao61 t271.length co61) : Value).ownBlock ∧ some k_ ≠ ((.slice Ao62 t274.length co62) : Value).ownBlock) v249 t248) ∧ Aside0 (Kd.R (Kd.int .i64) 3 wc w.heap.size (fun k_ => some k_ ≠ (v249 : Value).ownBlock ∧ some k_ ≠ ((.slice Ao50 t255.length co50) : Value).ownBlock ∧ some k_ ≠ ((.slice Ao51 t258.length co51) : Value).ownBlock ∧ some k_ ≠ ((.slice Ao52 t261.length co52) : Value).ownBlock ∧ some k_ ≠ ((.slice Ao60 t268.length co60) : Value).ownBlock ∧ some k_ ≠ ((.slice Ao61 t271.length co61) : Value).ownBlock ∧ some k_ ≠ ((.slice Ao62 t274.length co62) : Value).ownBlock) v279 t278) ∧ Aside0 (Kd.R (Kd.int .i64) 3 wc w.heap.size (fun k_ => some k_ ≠ (v249 : Value).ownBlock ∧ some k_ ≠ (v279 : Value).ownBlock ∧ some k_ ≠ ((.slice Ao51 t258.length co51) : Value).ownBlock ∧ some k_ ≠ ((.slice Ao52 t261.length co52) : Value).ownBlock ∧ some k_ ≠ ((.slice Ao60 t268.length co60) : Value).ownBlock ∧ some k_ ≠ ((.slice Ao61 t271.length co61) : Value).ownBlock ∧ some k_ ≠ ((.slice Ao62 t274.length co62) : Value).ownBlock) (.slice Ao50 t255.length co50) t255) ∧ Aside0 (Kd.R (Kd.int .i64) 3 wc w.heap.size (fun k_ => some k_ ≠ (v249 : Value).ownBlock ∧ some k_ ≠ (v279 : Value).ownBlock ∧ some k_ ≠ ((.slice Ao50 t255.length co50) : Value).ownBlock ∧ some k_ ≠ ((.slice Ao52 t261.length co52) : Value).ownBlock ∧ some k_ ≠ ((.slice Ao60 t268.length co60) : Value).ownBlock ∧ some k_ ≠ ((.slice Ao61 t271.length co61) : Value).ownBlock ∧ some k_ ≠ ((.slice Ao62 t274.length co62) : Value).ownBlock) (.slice Ao51 t258.length co51) t258) ∧ Aside0 (Kd.R (Kd.int .i64) 3 wc w.heap.size (fun k_ => some k_ ≠ (v249 : Value).ownBlock ∧ some k_ ≠ (v279 : Value).ownBlock ∧ some k_ ≠ ((.slice Ao50 t255.length co50) : Value).ownBlock ∧ some k_ ≠ ((.slice Ao51 t258.length co51) : Value).ownBlock ∧ some k_ ≠ ((.slice Ao60 t268.length co60) : Value).ownBlock ∧ some k_ ≠ ((.slice Ao61 t271.length co61) : Value).ownBlock ∧ some k_ ≠ ((.slice Ao62 t274.length co62) : Value).ownBlock) (.slice Ao52 t261.length co52) t261) ∧ Aside0 (Kd.R (Kd.int .i64) 3 wc w.heap.size (fun k_ => some k_ ≠ (v249 : Value).ownBlock ∧ some k_ ≠ (v279 : Value).ownBlock ∧ some k_ ≠ ((.slice Ao50 t255.length co50) : Value).ownBlock ∧ some k_ ≠ ((.slice Ao51 t258.length co51) : Value).ownBlock ∧ some k_ ≠ ((.slice Ao52 t261.length co52) : Value).ownBlock ∧ some k_ ≠ ((.slice Ao61 t271.length co61) : Value).ownBlock ∧ some k_ ≠ ((.slice Ao62 t274.length co62) : Value).ownBlock) (.slice Ao60 t268.length co60) t268) ∧ Aside0 (Kd.R (Kd.int .i64) 3 wc w.heap.size (fun k_ => some k_ ≠ (v249 : Value).ownBlock ∧ some k_ ≠ (v279 : Value).ownBlock ∧ some k_ ≠ ((.slice Ao50 t255.length co50) : Value).ownBlock ∧ some k_ ≠ ((.slice Ao51 t258.length co51) : Value).ownBlock ∧ some k_ ≠ ((.slice Ao52 t261.length co52) : Value).ownBlock ∧ some k_ ≠ ((.slice Ao60 t268.length co60) : Value).ownBlock ∧ some k_ ≠ ((.slice Ao62 t274.length co62) : Value).ownBlock) (.slice Ao61 t271.length co61) t271) ∧ Aside0 (Kd.R (Kd.int .i64) 3 wc w.heap.size (fun k_ => some k_ ≠ (v249 : Value).ownBlock ∧ some k_ ≠ (v279 : Value).ownBlock ∧ some k_ ≠ ((.slice Ao50 t255.length co50) : Value).ownBlock ∧ some k_ ≠ ((.slice Ao51 t258.length co51) : Value).ownBlock ∧ some k_ ≠ ((.slice Ao52 t261.length co52) : Value).ownBlock ∧ some k_ ≠ ((.slice Ao60 t268.length co60) : Value).ownBlock ∧ some k_ ≠ ((.slice Ao61 t271.length co61) : Value).ownBlock) (.slice Ao62 t274.length co62) t274) ∧ Aside0 (wc.heap[gb220]? = some (.cells #[.int .i64 a0_0, .int .i64 a0_1, .int .i64 a0_2, (.slice A0_3 l0_3.length c0_3), (.slice A0_4 l0_4.length c0_4), (.slice A0_5 l0_5.length c0_5)] 26 (0, 0))) ∧ Aside0 (wc.heap[gb221]? = some (.cells #[.int .i64 a1_0, .int .i64 a1_1, .int .i64 a1_2, (.slice A1_3 l1_3.length c1_3), (.slice A1_4 l1_4.length c1_4), (.slice A1_5 l1_5.length c1_5)] 26 (0, 0))) ∧ Aside0 (wc.heap[gb264]? = some (.cells #[.int .i64 t252, .int .i64 t253, .int .i64 t254, (.slice Ao50 t255.length co50), (.slice Ao51 t258.length co51), (.slice Ao52 t261.length co52)] 41 (0, 0))) ∧ Aside0 (wc.heap[gb277]? = some (.cells #[.int .i64 t265, .int .i64 t266, .int .i64 t267, (.slice Ao60 t268.length co60), (.slice Ao61 t271.length co61), (.slice Ao62 t274.length co62)] 41 (0, 0))) ∧ Aside0 (Below w.heap.size w wc))
   case first =>
    have H := HC26.out
    clear HC26
    replace H := Option.bind_eq_some_iff.mp H
    obtain ⟨t282, A650, H⟩ := H
    have A65 := Aside0.mk A650
    clear A650
    by_cases c66 : t282 = true
    ·subst c66
     have H1 : (laws_FnExactSortTable.j0 k a2 t248 t251 t278 t281 (t281 != t251) a0_0 a0_1 a0_2 l0_3 l0_4 l0_5 a1_0 a1_1 a1_2 l1_3 l1_4 l1_5 t252 t253 t254 t255 t258 t261 t265 t266 t267 t268 t271 t274) = some r := by rw [if_pos rfl] at H; exact H
     clear H
     have H := H1
     clear H1
     have H' := Aside0.mk H
     clear H
     obtain ⟨Ao67, co67, eo67⟩ := Kd.R_slice HO280.out
     subst eo67
     obtain ⟨Ao68, co68, eo68⟩ := Kd.R_slice HO250.out
     subst eo68
     go_wp2_with (first | ((with_reducible refine gate_callee (f := 23) rfl ?_); refine goesL_ (some 51) rfl rfl Try.func23 (by kernel_rfl) rfl #[.slice Ao67 t278.length co67, .slice Ao68 t248.length co68] rfl mpx7 ?_; (with_reducible refine (laws_eqIntS.calls k _ _ t278 _ _ t248 true _ ?side1 ?side2 ?side3 ?side4 A65.out).mono ?_); (case side1 => exact cRx7 HO280.out); (case side2 => exact (Kd.R_reads' HO280.out).2.1); (case side3 => exact cRx7 HO250.out); (case side4 => exact (Kd.R_reads' HO250.out).2.1); rintro e w' ⟨rfl, ⟨nd, rfl⟩⟩; refine ⟨_, rfl, ?_⟩))
     go_meet
     case rel => exact ⟨_, ((t281 != t251)), (by first | rfl | (simp; done) | (simp [*]; done)), H', ⟨by first | omega | exact Nat.le_refl _⟩, ⟨by exact rRx7 (mox7 HO250.out)⟩, ⟨by exact rRx7 (mox7 HO280.out)⟩, ⟨by exact rRx7 (mox7 HO257.out)⟩, ⟨by exact rRx7 (mox7 HO260.out)⟩, ⟨by exact rRx7 (mox7 HO263.out)⟩, ⟨by exact rRx7 (mox7 HO270.out)⟩, ⟨by exact rRx7 (mox7 HO273.out)⟩, ⟨by exact rRx7 (mox7 HO276.out)⟩, ⟨rBx7 BK220.out⟩, ⟨rBx7 BK221.out⟩, ⟨rBx7 BK264.out⟩, ⟨rBx7 BK277.out⟩, ⟨be4x7 HB.out GE220.out GE221.out GE264.out GE277.out⟩⟩
    ·replace c66 := Bool.eq_false_iff.mpr c66
     subst c66
     have H1 : (laws_FnExactSortTable.j0 k a2 t248 t251 t278 t281 true a0_0 a0_1 a0_2 l0_3 l0_4 l0_5 a1_0 a1_1 a1_2 l1_3 l1_4 l1_5 t252 t253 t254 t255 t258 t261 t265 t266 t267 t268 t271 t274) = some r := by rw [if_neg (show ¬ (false = true) by decide)] at H; exact H
     clear H
     have H := H1
     clear H1
     have H' := Aside0.mk H
     clear H
     obtain ⟨Ao69, co69, eo69⟩ := Kd.R_slice HO280.out
     subst eo69
     obtain ⟨Ao70, co70, eo70⟩ := Kd.R_slice HO250.out
     subst eo70
     go_wp2_with (first | ((with_reducible refine gate_callee (f := 23) rfl ?_); refine goesL_ (some 51) rfl rfl Try.func23 (by kernel_rfl) rfl #[.slice Ao69 t278.length co69, .slice Ao70 t248.length co70] rfl mpx7 ?_; (with_reducible refine (laws_eqIntS.calls k _ _ t278 _ _ t248 false _ ?side1 ?side2 ?side3 ?side4 A65.out).mono ?_); (case side1 => exact cRx7 HO280.out); (case side2 => exact (Kd.R_reads' HO280.out).2.1); (case side3 => exact cRx7 HO250.out); (case side4 => exact (Kd.R_reads' HO250.out).2.1); rintro e w' ⟨rfl, ⟨nd, rfl⟩⟩; refine ⟨_, rfl, ?_⟩))
     go_meet
     case rel => exact ⟨_, (true), (by first | rfl | (simp; done) | (simp [*]; done)), H', ⟨by first | omega | exact Nat.le_refl _⟩, ⟨by exact rRx7 (mox7 HO250.out)⟩, ⟨by exact rRx7 (mox7 HO280.out)⟩, ⟨by exact rRx7 (mox7 HO257.out)⟩, ⟨by exact rRx7 (mox7 HO260.out)⟩, ⟨by exact rRx7 (mox7 HO263.out)⟩, ⟨by exact rRx7 (mox7 HO270.out)⟩, ⟨by exact rRx7 (mox7 HO273.out)⟩, ⟨by exact rRx7 (mox7 HO276.out)⟩, ⟨rBx7 BK220.out⟩, ⟨rBx7 BK221.out⟩, ⟨rBx7 BK264.out⟩, ⟨rBx7 BK277.out⟩, ⟨be4x7 HB.out GE220.out GE221.out GE264.out GE277.out⟩⟩
   case rest =>
    clear HC26
    try clear c5; try clear c5b0; try clear c12; try clear c12b0; try clear c66; try clear hcz16_0 hcz16_1 hcz16_2 hcz16_3 hcz16_4 hcz16_5; try clear hcz18_0 hcz18_1 hcz18_2 hcz18_3 hcz18_4 hcz18_5; try clear hcz30_0 hcz30_1 hcz30_2 hcz30_3 hcz30_4 hcz30_5; try clear hcz32_0 hcz32_1 hcz32_2 hcz32_3 hcz32_4 hcz32_5; try clear hcz44_0 hcz44_1 hcz44_2 hcz44_3 hcz44_4 hcz44_5; try clear hcz49_0 hcz49_1 hcz49_2 hcz49_3 hcz49_4 hcz49_5; try clear hcz53_0 hcz53_1 hcz53_2 hcz53_3 hcz53_4 hcz53_5; try clear hcz59_0 hcz59_1 hcz59_2 hcz59_3 hcz59_4 hcz59_5; try clear hcz63_0 hcz63_1 hcz63_2 hcz63_3 hcz63_4 hcz63_5; try clear hcz9_0 hcz9_1 hcz9_2 hcz9_3 hcz9_4 hcz9_5; try clear hfz16_0 hfz16_1 hfz16_2 hfz16_3 hfz16_4 hfz16_5; try clear hfz18_0 hfz18_1 hfz18_2 hfz18_3 hfz18_4 hfz18_5; try clear hfz30_0 hfz30_1 hfz30_2 hfz30_3 hfz30_4 hfz30_5; try clear hfz32_0 hfz32_1 hfz32_2 hfz32_3 hfz32_4 hfz32_5; try clear hfz44_0 hfz44_1 hfz44_2 hfz44_3 hfz44_4 hfz44_5; try clear hfz49_0 hfz49_1 hfz49_2 hfz49_3 hfz49_4 hfz49_5; try clear hfz53_0 hfz53_1 hfz53_2 hfz53_3 hfz53_4 hfz53_5; try clear hfz59_0 hfz59_1 hfz59_2 hfz59_3 hfz59_4 hfz59_5; try clear hfz63_0 hfz63_1 hfz63_2 hfz63_3 hfz63_4 hfz63_5; try clear hfz9_0 hfz9_1 hfz9_2 hfz9_3 hfz9_4 hfz9_5
    obtain ⟨kq, x57_25, rfl, HA, HJ25, HO_8, HO_12, HO_265003, HO_265004, HO_265005, HO_278003, HO_278004, HO_278005, BK220, BK221, BK264, BK277, HB⟩ := hcut
    cases kq with
    | zero => exact absurd HA.out (by simp [laws_FnExactSortTable.j0])
    | succ kj25 =>
     have H := HA.out
     clear HA
     simp only [laws_FnExactSortTable.j0] at H
     by_cases c71 : x57_25 = true
     ·subst c71
      have H1 : (some false) = some r := by rw [if_pos rfl] at H; exact H
      clear H
      have H := H1
      clear H1
      obtain rfl := Option.some.inj H
      go_wp2
      go_ret
      exact ⟨by first | rfl | (simp [errW_none, errW_some] <;> rfl) | (simp [*, errW_none, errW_some] <;> rfl), be4x7 HB.out GE220.out GE221.out GE264.out GE277.out⟩
     ·replace c71 := Bool.eq_false_iff.mpr c71
      subst c71
      have H1 : ((laws_toModel.f kj25 a0_0 a0_1 a0_2 l0_3 l0_4 l0_5).bind fun bt283 => ((laws_eqModel.f kj25 t252 t253 t254 t255 t258 t261 bt283.1 bt283.2.1 bt283.2.2.1 bt283.2.2.2.1 bt283.2.2.2.2.1 bt283.2.2.2.2.2).bind fun t295 => (if t295 = true then (laws_FnExactSortTable.j1 kj25 a2 t248 t251 t278 t281 a0_0 a0_1 a0_2 l0_3 l0_4 l0_5 a1_0 a1_1 a1_2 l1_3 l1_4 l1_5 t252 t253 t254 t255 t258 t261 t265 t266 t267 t268 t271 t274) else (some false)))) = some r := by rw [if_neg (show ¬ (false = true) by decide)] at H; exact H
      clear H
      have H := H1
      clear H1
      replace H := Option.bind_eq_some_iff.mp H
      obtain ⟨⟨t283, t284, t285, t286, t289, t292⟩, A720, H⟩ := H
      (try dsimp only at H)
      have A72 := Aside0.mk A720
      clear A720
      replace H := Option.bind_eq_some_iff.mp H
      obtain ⟨t295, A730, H⟩ := H
      have A73 := Aside0.mk A730
      clear A730
      have HC74 := Aside0.mk H
      clear H
      try go_wp2
      have n0_ := Aside0.mk (Kd.R_drew HO_8.out)
      have n1_ := Aside0.mk (Kd.R_drew HO_12.out)
      have n2_ := Aside0.mk (Kd.R_drew HO_265003.out)
      have n3_ := Aside0.mk (Kd.R_drew HO_265004.out)
      have n4_ := Aside0.mk (Kd.R_drew HO_265005.out)
      have n5_ := Aside0.mk (Kd.R_drew HO_278003.out)
      have n6_ := Aside0.mk (Kd.R_drew HO_278004.out)
      have n7_ := Aside0.mk (Kd.R_drew HO_278005.out)
      have n8_ := Aside0.mk (blk_drew BK220.out)
      have n9_ := Aside0.mk (blk_drew BK221.out)
      have n10_ := Aside0.mk (blk_drew BK264.out)
      have n11_ := Aside0.mk (blk_drew BK277.out)
      have n12_ := Aside0.mk (below_drew1 HB.out)
      clear HO_8
      clear HO_12
      clear HO_265003
      clear HO_265004
      clear HO_265005
      clear HO_278003
      clear HO_278004
      clear HO_278005
      clear BK220
      clear BK221
      clear BK264
      clear BK277
      clear HB
      have HO_8 := n0_
      have HO_12 := n1_
      have HO_265003 := n2_
      have HO_265004 := n3_
      have HO_265005 := n4_
      have HO_278003 := n5_
      have HO_278004 := n6_
      have HO_278005 := n7_
      have BK220 := n8_
      have BK221 := n9_
      have BK264 := n10_
      have BK277 := n11_
      have HB := n12_
      clear n0_ n1_ n2_ n3_ n4_ n5_ n6_ n7_ n8_ n9_ n10_ n11_ n12_
      refine start_ (n := 5) (S := fun w' => w'.cell? ⟨gb264, 0, none⟩ = some (.int .i64 t252) ∧ w'.cell? ⟨gb264, 1, none⟩ = some (.int .i64 t253) ∧ w'.cell? ⟨gb264, 2, none⟩ = some (.int .i64 t254) ∧ w'.cell? ⟨gb264, 3, none⟩ = some (.slice Ao50 t255.length co50) ∧ w'.cell? ⟨gb264, 4, none⟩ = some (.slice Ao51 t258.length co51) ∧ w'.cell? ⟨gb264, 5, none⟩ = some (.slice Ao52 t261.length co52) ∧ w'.cell? ⟨gb220, 0, none⟩ = some (.int .i64 a0_0) ∧ w'.cell? ⟨gb220, 1, none⟩ = some (.int .i64 a0_1) ∧ w'.cell? ⟨gb220, 2, none⟩ = some (.int .i64 a0_2) ∧ w'.cell? ⟨gb220, 3, none⟩ = some (.slice A0_3 l0_3.length c0_3) ∧ w'.cell? ⟨gb220, 4, none⟩ = some (.slice A0_4 l0_4.length c0_4) ∧ w'.cell? ⟨gb220, 5, none⟩ = some (.slice A0_5 l0_5.length c0_5)) (ds := []) #[false, false, false, false, false] (by kernel_rfl) rfl rfl (ca6x7 BK264.out (cc6x7 BK220.out)) (fun hHeld => ?_)
      generalize wc.drew = w75 at HO_8 HO_12 HO_265003 HO_265004 HO_265005 HO_278003 HO_278004 HO_278005 BK220 BK221 BK264 BK277 HB hHeld ⊢
      refine take_ (i := 0) (N := some 58) (v := ?_) (a' := ?_) #[true, false, false, false, false] rfl rfl (by kernel_rfl) (fun _ _ _ h => h) (Or.inl ⟨by rfl, ?_⟩) hHeld ?_ ?_
      rotate_left
      ·rintro w' ⟨s0, s1, s2, s3, s4, s5, s6, s7, s8, s9, s10, s11⟩
       go_simp
       with_reducible rfl
      rotate_left
      ·simp only [Act.put, List.setIfInBounds_toArray, List.set_cons_zero, List.set_cons_succ, i64_w, i32_w]
       rfl
      refine take_ (i := 1) (N := some 59) (v := ?_) (a' := ?_) #[true, true, false, false, false] rfl rfl (by kernel_rfl) (fun _ _ _ h => h) (Or.inl ⟨by rfl, ?_⟩) hHeld ?_ ?_
      rotate_left
      ·rintro w' ⟨s0, s1, s2, s3, s4, s5, s6, s7, s8, s9, s10, s11⟩
       go_simp
       with_reducible rfl
      rotate_left
      ·simp only [Act.put, List.setIfInBounds_toArray, List.set_cons_zero, List.set_cons_succ, i64_w, i32_w]
       rfl
      refine one_ (i := 2) (N := some 60) #[true, true, true, false, false] rfl rfl (by kernel_rfl) (by decide) (fun K hK => ?_)
      refine goes_ Try.func19 (by kernel_rfl) rfl #[.agg #[.int .i64 a0_0, .int .i64 a0_1, .int .i64 a0_2, .slice A0_3 l0_3.length c0_3, .slice A0_4 l0_4.length c0_4, .slice A0_5 l0_5.length c0_5]] (by rfl) rfl rfl mpx7 ?_
      with_reducible refine (laws_toModel.calls kj25 a0_0 a0_1 a0_2 _ _ l0_3 _ _ l0_4 _ _ l0_5 t283 t284 t285 t286 t289 t292 _ ?side1 ?side2 ?side3 ?side4 ?side5 ?side6 A72.out).mono ?_
      (case side1 => exact rCx7 (Kd.C_below HR0_3.out HB.out))
      (case side2 => exact HC0_3.out)
      (case side3 => exact rCx7 (Kd.C_below HR0_4.out HB.out))
      (case side4 => exact HC0_4.out)
      (case side5 => exact rCx7 (Kd.C_below HR0_5.out HB.out))
      (case side6 => exact HC0_5.out)
      rintro e w76 ⟨v287, v290, v293, rfl, ho0, ho1, ho2, hb⟩
      refine ⟨_, rfl, ?_⟩
      have n0_ := Aside0.mk (kp3x7 (rRx7 HO_8.out) hb ho0 ho1 ho2)
      have n1_ := Aside0.mk (kp3x7 (rRx7 HO_12.out) hb ho0 ho1 ho2)
      have n2_ := Aside0.mk (kp3x7 (rRx7 HO_265003.out) hb ho0 ho1 ho2)
      have n3_ := Aside0.mk (kp3x7 (rRx7 HO_265004.out) hb ho0 ho1 ho2)
      have n4_ := Aside0.mk (kp3x7 (rRx7 HO_265005.out) hb ho0 ho1 ho2)
      have n5_ := Aside0.mk (kp3x7 (rRx7 HO_278003.out) hb ho0 ho1 ho2)
      have n6_ := Aside0.mk (kp3x7 (rRx7 HO_278004.out) hb ho0 ho1 ho2)
      have n7_ := Aside0.mk (kp3x7 (rRx7 HO_278005.out) hb ho0 ho1 ho2)
      have n8_ := Aside0.mk (Kd.R_lower (nwx7 (nwx7 (nwx7 (nwx7 (nwx7 (nwx7 (nwx7 (nwx7 ho0 (rRx7 HO_8.out)) (rRx7 HO_12.out)) (rRx7 HO_265003.out)) (rRx7 HO_265004.out)) (rRx7 HO_265005.out)) (rRx7 HO_278003.out)) (rRx7 HO_278004.out)) (rRx7 HO_278005.out)) (below_size (be4x7 HB.out GE220.out GE221.out GE264.out GE277.out)))
      have n9_ := Aside0.mk (Kd.R_lower (nwx7 (nwx7 (nwx7 (nwx7 (nwx7 (nwx7 (nwx7 (nwx7 ho1 (rRx7 HO_8.out)) (rRx7 HO_12.out)) (rRx7 HO_265003.out)) (rRx7 HO_265004.out)) (rRx7 HO_265005.out)) (rRx7 HO_278003.out)) (rRx7 HO_278004.out)) (rRx7 HO_278005.out)) (below_size (be4x7 HB.out GE220.out GE221.out GE264.out GE277.out)))
      have n10_ := Aside0.mk (Kd.R_lower (nwx7 (nwx7 (nwx7 (nwx7 (nwx7 (nwx7 (nwx7 (nwx7 ho2 (rRx7 HO_8.out)) (rRx7 HO_12.out)) (rRx7 HO_265003.out)) (rRx7 HO_265004.out)) (rRx7 HO_265005.out)) (rRx7 HO_278003.out)) (rRx7 HO_278004.out)) (rRx7 HO_278005.out)) (below_size (be4x7 HB.out GE220.out GE221.out GE264.out GE277.out)))
      have n11_ := Aside0.mk (blk_below (g := gb220) (o := .cells #[.int .i64 a0_0, .int .i64 a0_1, .int .i64 a0_2, .slice A0_3 l0_3.length c0_3, .slice A0_4 l0_4.length c0_4, .slice A0_5 l0_5.length c0_5] 26 (0, 0)) (rBx7 BK220.out) hb)
      have n12_ := Aside0.mk (blk_below (g := gb221) (o := .cells #[.int .i64 a1_0, .int .i64 a1_1, .int .i64 a1_2, .slice A1_3 l1_3.length c1_3, .slice A1_4 l1_4.length c1_4, .slice A1_5 l1_5.length c1_5] 26 (0, 0)) (rBx7 BK221.out) hb)
      have n13_ := Aside0.mk (blk_below (g := gb264) (o := .cells #[.int .i64 t252, .int .i64 t253, .int .i64 t254, .slice Ao50 t255.length co50, .slice Ao51 t258.length co51, .slice Ao52 t261.length co52] 41 (0, 0)) (rBx7 BK264.out) hb)
      have n14_ := Aside0.mk (blk_below (g := gb277) (o := .cells #[.int .i64 t265, .int .i64 t266, .int .i64 t267, .slice Ao60 t268.length co60, .slice Ao61 t271.length co61, .slice Ao62 t274.length co62] 41 (0, 0)) (rBx7 BK277.out) hb)
      have n15_ := Aside0.mk (below_step (be4x7 HB.out GE220.out GE221.out GE264.out GE277.out) hb)
      clear HO_8
      clear HO_12
      clear HO_265003
      clear HO_265004
      clear HO_265005
      clear HO_278003
      clear HO_278004
      clear HO_278005
      clear BK220
      clear BK221
      clear BK264
      clear BK277
      clear HB
      have HO_8 := n0_
      have HO_12 := n1_
      have HO_265003 := n2_
      have HO_265004 := n3_
      have HO_265005 := n4_
      have HO_278003 := n5_
      have HO_278004 := n6_
      have HO_278005 := n7_
      have HO288 := n8_
      have HO291 := n9_
      have HO294 := n10_
      have BK220 := n11_
      have BK221 := n12_
      have BK264 := n13_
      have BK277 := n14_
      have HB := n15_
      clear n0_ n1_ n2_ n3_ n4_ n5_ n6_ n7_ n8_ n9_ n10_ n11_ n12_ n13_ n14_ n15_
      (try clear hb)
      (try clear hb2)
      (try clear hk)
      (try clear hi)
      (try clear ho0)
      (try clear ho1)
      (try clear ho2)
      obtain ⟨Ao77, co77, eo77⟩ := Kd.R_slice HO288.out
      (first | subst eo77 | (injection eo77 with f1_ f2_ f3_; have f4_ := f1_.symm; have f5_ := f3_.symm; clear f1_ f2_ f3_; subst f4_; subst f5_))
      obtain ⟨Ao78, co78, eo78⟩ := Kd.R_slice HO291.out
      (first | subst eo78 | (injection eo78 with f1_ f2_ f3_; have f4_ := f1_.symm; have f5_ := f3_.symm; clear f1_ f2_ f3_; subst f4_; subst f5_))
      obtain ⟨Ao79, co79, eo79⟩ := Kd.R_slice HO294.out
      (first | subst eo79 | (injection eo79 with f1_ f2_ f3_; have f4_ := f1_.symm; have f5_ := f3_.symm; clear f1_ f2_ f3_; subst f4_; subst f5_))
      refine hK.out _ _ (ca6x7 BK264.out (cc6x7 BK220.out)) (fun hHeld => ?_)
      clear hK K
      refine norm_ (a' := ?_) ?_ ?_
      rotate_left
      ·show Act.put _ (some 60) _ = _
       simp only [Act.put, List.setIfInBounds_toArray, List.set_cons_zero, List.set_cons_succ, i64_w, i32_w]
       rfl
      refine one_ (i := 3) (N := some 61) #[true, true, true, true, false] rfl rfl (by kernel_rfl) (by decide) (fun K hK => ?_)
      refine goes_ Try.func24 (by kernel_rfl) rfl #[.agg #[.int .i64 t252, .int .i64 t253, .int .i64 t254, .slice Ao50 t255.length co50, .slice Ao51 t258.length co51, .slice Ao52 t261.length co52], .agg #[.int .i64 t283, .int .i64 t284, .int .i64 t285, .slice Ao77 t286.length co77, .slice Ao78 t289.length co78, .slice Ao79 t292.length co79]] (by rfl) rfl rfl mpx7 ?_
      with_reducible refine (laws_eqModel.calls kj25 t252 t253 t254 _ _ t255 _ _ t258 _ _ t261 t283 t284 t285 _ _ t286 _ _ t289 _ _ t292 t295 _ ?side1 ?side2 ?side3 ?side4 ?side5 ?side6 ?side7 ?side8 ?side9 ?side10 ?side11 ?side12 A73.out).mono ?_
      (case side1 => exact cRx7 HO_265003.out)
      (case side2 => exact (Kd.R_reads' HO_265003.out).2.1)
      (case side3 => exact cRx7 HO_265004.out)
      (case side4 => exact (Kd.R_reads' HO_265004.out).2.1)
      (case side5 => exact cRx7 HO_265005.out)
      (case side6 => exact (Kd.R_reads' HO_265005.out).2.1)
      (case side7 => exact cRx7 HO288.out)
      (case side8 => exact (Kd.R_reads' HO288.out).2.1)
      (case side9 => exact cRx7 HO291.out)
      (case side10 => exact (Kd.R_reads' HO291.out).2.1)
      (case side11 => exact cRx7 HO294.out)
      (case side12 => exact (Kd.R_reads' HO294.out).2.1)
      rintro e w80 ⟨rfl, hb⟩
      refine ⟨_, rfl, ?_⟩
      have n0_ := Aside0.mk (Kd.R_below (rRx7 HO_8.out) hb)
      have n1_ := Aside0.mk (Kd.R_below (rRx7 HO_12.out) hb)
      have n2_ := Aside0.mk (Kd.R_below (rRx7 HO_265003.out) hb)
      have n3_ := Aside0.mk (Kd.R_below (rRx7 HO_265004.out) hb)
      have n4_ := Aside0.mk (Kd.R_below (rRx7 HO_265005.out) hb)
      have n5_ := Aside0.mk (Kd.R_below (rRx7 HO_278003.out) hb)
      have n6_ := Aside0.mk (Kd.R_below (rRx7 HO_278004.out) hb)
      have n7_ := Aside0.mk (Kd.R_below (rRx7 HO_278005.out) hb)
      have n8_ := Aside0.mk (Kd.R_below (rRx7 HO288.out) hb)
      have n9_ := Aside0.mk (Kd.R_below (rRx7 HO291.out) hb)
      have n10_ := Aside0.mk (Kd.R_below (rRx7 HO294.out) hb)
      have n11_ := Aside0.mk (blk_below (g := gb220) (o := .cells #[.int .i64 a0_0, .int .i64 a0_1, .int .i64 a0_2, .slice A0_3 l0_3.length c0_3, .slice A0_4 l0_4.length c0_4, .slice A0_5 l0_5.length c0_5] 26 (0, 0)) (rBx7 BK220.out) hb)
      have n12_ := Aside0.mk (blk_below (g := gb221) (o := .cells #[.int .i64 a1_0, .int .i64 a1_1, .int .i64 a1_2, .slice A1_3 l1_3.length c1_3, .slice A1_4 l1_4.length c1_4, .slice A1_5 l1_5.length c1_5] 26 (0, 0)) (rBx7 BK221.out) hb)
      have n13_ := Aside0.mk (blk_below (g := gb264) (o := .cells #[.int .i64 t252, .int .i64 t253, .int .i64 t254, .slice Ao50 t255.length co50, .slice Ao51 t258.length co51, .slice Ao52 t261.length co52] 41 (0, 0)) (rBx7 BK264.out) hb)
      have n14_ := Aside0.mk (blk_below (g := gb277) (o := .cells #[.int .i64 t265, .int .i64 t266, .int .i64 t267, .slice Ao60 t268.length co60, .slice Ao61 t271.length co61, .slice Ao62 t274.length co62] 41 (0, 0)) (rBx7 BK277.out) hb)
      have n15_ := Aside0.mk (below_step (be4x7 HB.out GE220.out GE221.out GE264.out GE277.out) hb)
      clear HO_8
      clear HO_12
      clear HO_265003
      clear HO_265004
      clear HO_265005
      clear HO_278003
      clear HO_278004
      clear HO_278005
      clear HO288
      clear HO291
      clear HO294
      clear BK220
      clear BK221
      clear BK264
      clear BK277
      clear HB
      have HO_8 := n0_
      have HO_12 := n1_
      have HO_265003 := n2_
      have HO_265004 := n3_
      have HO_265005 := n4_
      have HO_278003 := n5_
      have HO_278004 := n6_
      have HO_278005 := n7_
      have HO288 := n8_
      have HO291 := n9_
      have HO294 := n10_
      have BK220 := n11_
      have BK221 := n12_
      have BK264 := n13_
      have BK277 := n14_
      have HB := n15_
      clear n0_ n1_ n2_ n3_ n4_ n5_ n6_ n7_ n8_ n9_ n10_ n11_ n12_ n13_ n14_ n15_
      (try clear hb)
      (try clear hb2)
      (try clear hk)
      (try clear hi)
      refine hK.out _ _ (ca6x7 BK264.out (cc6x7 BK220.out)) (fun hHeld => ?_)
      clear hK K
      refine norm_ (a' := ?_) ?_ ?_
      rotate_left
      ·show Act.put _ (some 61) _ = _
       simp only [Act.put, List.setIfInBounds_toArray, List.set_cons_zero, List.set_cons_succ, i64_w, i32_w]
       rfl
      refine pure_ (i := 4) (N := some 62) (v := ?_) (a' := ?_) #[true, true, true, true, true] rfl rfl (by kernel_rfl) (fun _ _ _ h => h) (Or.inl ⟨by rfl, ?_⟩) ?_ ?_
      rotate_left
      ·intro w'
       go_simp
       with_reducible rfl
      rotate_left
      ·simp only [Act.put, List.setIfInBounds_toArray, List.set_cons_zero, List.set_cons_succ, i64_w, i32_w]
       rfl
      refine done_ (by kernel_rfl) ?_
      go_upto_if 62 with (fail)
      go_cut [] (fun wc => ∃ (kq : Nat), Aside0 (laws_FnExactSortTable.j1 kq a2 t248 t251 t278 t281 a0_0 a0_1 a0_2 l0_3 l0_4 l0_5 a1_0 a1_1 a1_2 l1_3 l1_4 l1_5 t252 t253 t254 t255 t258 t261 t265 t266 t267 t268 t271 t274 = some r) ∧ Aside0 (kq ≤ kj25) ∧ Aside0 (Kd.R (Kd.int .i64) 3 wc w.heap.size (fun k_ => some k_ ≠ (v279 : Value).ownBlock ∧ some k_ ≠ ((.slice Ao50 t255.length co50) : Value).ownBlock ∧ some k_ ≠ ((.slice Ao51 t258.length co51) : Value).ownBlock ∧ some k_ ≠ ((.slice Ao52 t261.length co52) : Value).ownBlock ∧ some k_ ≠ ((.slice Ao60 t268.length co60) : Value).ownBlock ∧ some k_ ≠ ((.slice Ao61 t271.length co61) : Value).ownBlock ∧ some k_ ≠ ((.slice Ao62 t274.length co62) : Value).ownBlock) v249 t248) ∧ Aside0 (Kd.R (Kd.int .i64) 3 wc w.heap.size (fun k_ => some k_ ≠ (v249 : Value).ownBlock ∧ some k_ ≠ ((.slice Ao50 t255.length co50) : Value).ownBlock ∧ some k_ ≠ ((.slice Ao51 t258.length co51) : Value).ownBlock ∧ some k_ ≠ ((.slice Ao52 t261.length co52) : Value).ownBlock ∧ some k_ ≠ ((.slice Ao60 t268.length co60) : Value).ownBlock ∧ some k_ ≠ ((.slice Ao61 t271.length co61) : Value).ownBlock ∧ some k_ ≠ ((.slice Ao62 t274.length co62) : Value).ownBlock) v279 t278) ∧ Aside0 (Kd.R (Kd.int .i64) 3 wc w.heap.size (fun k_ => some k_ ≠ (v249 : Value).ownBlock ∧ some k_ ≠ (v279 : Value).ownBlock ∧ some k_ ≠ ((.slice Ao51 t258.length co51) : Value).ownBlock ∧ some k_ ≠ ((.slice Ao52 t261.length co52) : Value).ownBlock ∧ some k_ ≠ ((.slice Ao60 t268.length co60) : Value).ownBlock ∧ some k_ ≠ ((.slice Ao61 t271.length co61) : Value).ownBlock ∧ some k_ ≠ ((.slice Ao62 t274.length co62) : Value).ownBlock) (.slice Ao50 t255.length co50) t255) ∧ Aside0 (Kd.R (Kd.int .i64) 3 wc w.heap.size (fun k_ => some k_ ≠ (v249 : Value).ownBlock ∧ some k_ ≠ (v279 : Value).ownBlock ∧ some k_ ≠ ((.slice Ao50 t255.length co50) : Value).ownBlock ∧ some k_ ≠ ((.slice Ao52 t261.length co52) : Value).ownBlock ∧ some k_ ≠ ((.slice Ao60 t268.length co60) : Value).ownBlock ∧ some k_ ≠ ((.slice Ao61 t271.length co61) : Value).ownBlock ∧ some k_ ≠ ((.slice Ao62 t274.length co62) : Value).ownBlock) (.slice Ao51 t258.length co51) t258) ∧ Aside0 (Kd.R (Kd.int .i64) 3 wc w.heap.size (fun k_ => some k_ ≠ (v249 : Value).ownBlock ∧ some k_ ≠ (v279 : Value).ownBlock ∧ some k_ ≠ ((.slice Ao50 t255.length co50) : Value).ownBlock ∧ some k_ ≠ ((.slice Ao51 t258.length co51) : Value).ownBlock ∧ some k_ ≠ ((.slice Ao60 t268.length co60) : Value).ownBlock ∧ some k_ ≠ ((.slice Ao61 t271.length co61) : Value).ownBlock ∧ some k_ ≠ ((.slice Ao62 t274.length co62) : Value).ownBlock) (.slice Ao52 t261.length co52) t261) ∧ Aside0 (Kd.R (Kd.int .i64) 3 wc w.heap.size (fun k_ => some k_ ≠ (v249 : Value).ownBlock ∧ some k_ ≠ (v279 : Value).ownBlock ∧ some k_ ≠ ((.slice Ao50 t255.length co50) : Value).ownBlock ∧ some k_ ≠ ((.slice Ao51 t258.length co51) : Value).ownBlock ∧ some k_ ≠ ((.slice Ao52 t261.length co52) : Value).ownBlock ∧ some k_ ≠ ((.slice Ao61 t271.length co61) : Value).ownBlock ∧ some k_ ≠ ((.slice Ao62 t274.length co62) : Value).ownBlock) (.slice Ao60 t268.length co60) t268) ∧ Aside0 (Kd.R (Kd.int .i64) 3 wc w.heap.size (fun k_ => some k_ ≠ (v249 : Value).ownBlock ∧ some k_ ≠ (v279 : Value).ownBlock ∧ some k_ ≠ ((.slice Ao50 t255.length co50) : Value).ownBlock ∧ some k_ ≠ ((.slice Ao51 t258.length co51) : Value).ownBlock ∧ some k_ ≠ ((.slice Ao52 t261.length co52) : Value).ownBlock ∧ some k_ ≠ ((.slice Ao60 t268.length co60) : Value).ownBlock ∧ some k_ ≠ ((.slice Ao62 t274.length co62) : Value).ownBlock) (.slice Ao61 t271.length co61) t271) ∧ Aside0 (Kd.R (Kd.int .i64) 3 wc w.heap.size (fun k_ => some k_ ≠ (v249 : Value).ownBlock ∧ some k_ ≠ (v279 : Value).ownBlock ∧ some k_ ≠ ((.slice Ao50 t255.length co50) : Value).ownBlock ∧ some k_ ≠ ((.slice Ao51 t258.length co51) : Value).ownBlock ∧ some k_ ≠ ((.slice Ao52 t261.length co52) : Value).ownBlock ∧ some k_ ≠ ((.slice Ao60 t268.length co60) : Value).ownBlock ∧ some k_ ≠ ((.slice Ao61 t271.length co61) : Value).ownBlock) (.slice Ao62 t274.length co62) t274) ∧ Aside0 (wc.heap[gb220]? = some (.cells #[.int .i64 a0_0, .int .i64 a0_1, .int .i64 a0_2, (.slice A0_3 l0_3.length c0_3), (.slice A0_4 l0_4.length c0_4), (.slice A0_5 l0_5.length c0_5)] 26 (0, 0))) ∧ Aside0 (wc.heap[gb221]? = some (.cells #[.int .i64 a1_0, .int .i64 a1_1, .int .i64 a1_2, (.slice A1_3 l1_3.length c1_3), (.slice A1_4 l1_4.length c1_4), (.slice A1_5 l1_5.length c1_5)] 26 (0, 0))) ∧ Aside0 (wc.heap[gb264]? = some (.cells #[.int .i64 t252, .int .i64 t253, .int .i64 t254, (.slice Ao50 t255.length co50), (.slice Ao51 t258.length co51), (.slice Ao52 t261.length co52)] 41 (0, 0))) ∧ Aside0 (wc.heap[gb277]? = some (.cells #[.int .i64 t265, .int .i64 t266, .int .i64 t267, (.slice Ao60 t268.length co60), (.slice Ao61 t271.length co61), (.slice Ao62 t274.length co62)] 41 (0, 0))) ∧ Aside0 (Below w.heap.size w wc))
      case first =>
       have H := HC74.out
       clear HC74
       by_cases c81 : t295 = true
       ·subst c81
        have H1 : (laws_FnExactSortTable.j1 kj25 a2 t248 t251 t278 t281 a0_0 a0_1 a0_2 l0_3 l0_4 l0_5 a1_0 a1_1 a1_2 l1_3 l1_4 l1_5 t252 t253 t254 t255 t258 t261 t265 t266 t267 t268 t271 t274) = some r := by rw [if_pos rfl] at H; exact H
        clear H
        have H := H1
        clear H1
        have H' := Aside0.mk H
        clear H
        go_wp2
        go_meet
        case rel => exact ⟨_, H', ⟨by have := HJ25.out; first | omega | exact Nat.le_refl _⟩, ⟨by exact rRx7 (mox7 HO_8.out)⟩, ⟨by exact rRx7 (mox7 HO_12.out)⟩, ⟨by exact rRx7 (mox7 HO_265003.out)⟩, ⟨by exact rRx7 (mox7 HO_265004.out)⟩, ⟨by exact rRx7 (mox7 HO_265005.out)⟩, ⟨by exact rRx7 (mox7 HO_278003.out)⟩, ⟨by exact rRx7 (mox7 HO_278004.out)⟩, ⟨by exact rRx7 (mox7 HO_278005.out)⟩, ⟨rBx7 BK220.out⟩, ⟨rBx7 BK221.out⟩, ⟨rBx7 BK264.out⟩, ⟨rBx7 BK277.out⟩, ⟨be4x7 HB.out GE220.out GE221.out GE264.out GE277.out⟩⟩
       ·replace c81 := Bool.eq_false_iff.mpr c81
        subst c81
        have H1 : (some false) = some r := by rw [if_neg (show ¬ (false = true) by decide)] at H; exact H
        clear H
        have H := H1
        clear H1
        obtain rfl := Option.some.inj H
        go_wp2
        go_ret
        exact ⟨by first | rfl | (simp [errW_none, errW_some] <;> rfl) | (simp [*, errW_none, errW_some] <;> rfl), be4x7 HB.out GE220.out GE221.out GE264.out GE277.out⟩
      case rest =>
       clear HC74
       try clear c71; try clear c81
       obtain ⟨kq, HA, HJ73, HO_8, HO_12, HO_265003, HO_265004, HO_265005, HO_278003, HO_278004, HO_278005, BK220, BK221, BK264, BK277, HB⟩ := hcut
       cases kq with
       | zero => exact absurd HA.out (by simp [laws_FnExactSortTable.j1])
       | succ kj73 =>
        have H := HA.out
        clear HA
        simp only [laws_FnExactSortTable.j1] at H
        replace H := Option.bind_eq_some_iff.mp H
        obtain ⟨⟨t296, t297, t298, t299, t302, t305⟩, A820, H⟩ := H
        (try dsimp only at H)
        have A82 := Aside0.mk A820
        clear A820
        replace H := Option.bind_eq_some_iff.mp H
        obtain ⟨t308, A830, H⟩ := H
        have A83 := Aside0.mk A830
        clear A830
        have HC84 := Aside0.mk H
        clear H
        try go_wp2
        have n0_ := Aside0.mk (Kd.R_drew HO_8.out)
        have n1_ := Aside0.mk (Kd.R_drew HO_12.out)
        have n2_ := Aside0.mk (Kd.R_drew HO_265003.out)
        have n3_ := Aside0.mk (Kd.R_drew HO_265004.out)
        have n4_ := Aside0.mk (Kd.R_drew HO_265005.out)
        have n5_ := Aside0.mk (Kd.R_drew HO_278003.out)
        have n6_ := Aside0.mk (Kd.R_drew HO_278004.out)
        have n7_ := Aside0.mk (Kd.R_drew HO_278005.out)
        have n8_ := Aside0.mk (blk_drew BK220.out)
        have n9_ := Aside0.mk (blk_drew BK221.out)
        have n10_ := Aside0.mk (blk_drew BK264.out)
        have n11_ := Aside0.mk (blk_drew BK277.out)
        have n12_ := Aside0.mk (below_drew1 HB.out)
        clear HO_8
        clear HO_12
        clear HO_265003
        clear HO_265004
        clear HO_265005
        clear HO_278003
        clear HO_278004
        clear HO_278005
        clear BK220
        clear BK221
        clear BK264
        clear BK277
        clear HB
        have HO_8 := n0_
        have HO_12 := n1_
        have HO_265003 := n2_
        have HO_265004 := n3_
        have HO_265005 := n4_
        have HO_278003 := n5_
        have HO_278004 := n6_
        have HO_278005 := n7_
        have BK220 := n8_
        have BK221 := n9_
        have BK264 := n10_
        have BK277 := n11_
        have HB := n12_
        clear n0_ n1_ n2_ n3_ n4_ n5_ n6_ n7_ n8_ n9_ n10_ n11_ n12_
        refine start_ (n := 5) (S := fun w' => w'.cell? ⟨gb277, 0, none⟩ = some (.int .i64 t265) ∧ w'.cell? ⟨gb277, 1, none⟩ = some (.int .i64 t266) ∧ w'.cell? ⟨gb277, 2, none⟩ = some (.int .i64 t267) ∧ w'.cell? ⟨gb277, 3, none⟩ = some (.slice Ao60 t268.length co60) ∧ w'.cell? ⟨gb277, 4, none⟩ = some (.slice Ao61 t271.length co61) ∧ w'.cell? ⟨gb277, 5, none⟩ = some (.slice Ao62 t274.length co62) ∧ w'.cell? ⟨gb221, 0, none⟩ = some (.int .i64 a1_0) ∧ w'.cell? ⟨gb221, 1, none⟩ = some (.int .i64 a1_1) ∧ w'.cell? ⟨gb221, 2, none⟩ = some (.int .i64 a1_2) ∧ w'.cell? ⟨gb221, 3, none⟩ = some (.slice A1_3 l1_3.length c1_3) ∧ w'.cell? ⟨gb221, 4, none⟩ = some (.slice A1_4 l1_4.length c1_4) ∧ w'.cell? ⟨gb221, 5, none⟩ = some (.slice A1_5 l1_5.length c1_5)) (ds := []) #[false, false, false, false, false] (by kernel_rfl) rfl rfl (ca6x7 BK277.out (cc6x7 BK221.out)) (fun hHeld => ?_)
        generalize wc.drew = w85 at HO_8 HO_12 HO_265003 HO_265004 HO_265005 HO_278003 HO_278004 HO_278005 BK220 BK221 BK264 BK277 HB hHeld ⊢
        refine take_ (i := 0) (N := some 63) (v := ?_) (a' := ?_) #[true, false, false, false, false] rfl rfl (by kernel_rfl) (fun _ _ _ h => h) (Or.inl ⟨by rfl, ?_⟩) hHeld ?_ ?_
        rotate_left
        ·rintro w' ⟨s0, s1, s2, s3, s4, s5, s6, s7, s8, s9, s10, s11⟩
         go_simp
         with_reducible rfl
        rotate_left
        ·simp only [Act.put, List.setIfInBounds_toArray, List.set_cons_zero, List.set_cons_succ, i64_w, i32_w]
         rfl
        refine take_ (i := 1) (N := some 64) (v := ?_) (a' := ?_) #[true, true, false, false, false] rfl rfl (by kernel_rfl) (fun _ _ _ h => h) (Or.inl ⟨by rfl, ?_⟩) hHeld ?_ ?_
        rotate_left
        ·rintro w' ⟨s0, s1, s2, s3, s4, s5, s6, s7, s8, s9, s10, s11⟩
         go_simp
         with_reducible rfl
        rotate_left
        ·simp only [Act.put, List.setIfInBounds_toArray, List.set_cons_zero, List.set_cons_succ, i64_w, i32_w]
         rfl
        refine one_ (i := 2) (N := some 65) #[true, true, true, false, false] rfl rfl (by kernel_rfl) (by decide) (fun K hK => ?_)
        refine goes_ Try.func19 (by kernel_rfl) rfl #[.agg #[.int .i64 a1_0, .int .i64 a1_1, .int .i64 a1_2, .slice A1_3 l1_3.length c1_3, .slice A1_4 l1_4.length c1_4, .slice A1_5 l1_5.length c1_5]] (by rfl) rfl rfl mpx7 ?_
        with_reducible refine (laws_toModel.calls kj73 a1_0 a1_1 a1_2 _ _ l1_3 _ _ l1_4 _ _ l1_5 t296 t297 t298 t299 t302 t305 _ ?side1 ?side2 ?side3 ?side4 ?side5 ?side6 A82.out).mono ?_
        (case side1 => exact rCx7 (Kd.C_below HR1_3.out HB.out))
        (case side2 => exact HC1_3.out)
        (case side3 => exact rCx7 (Kd.C_below HR1_4.out HB.out))
        (case side4 => exact HC1_4.out)
        (case side5 => exact rCx7 (Kd.C_below HR1_5.out HB.out))
        (case side6 => exact HC1_5.out)
        rintro e w86 ⟨v300, v303, v306, rfl, ho0, ho1, ho2, hb⟩
        refine ⟨_, rfl, ?_⟩
        have n0_ := Aside0.mk (kp3x7 (rRx7 HO_8.out) hb ho0 ho1 ho2)
        have n1_ := Aside0.mk (kp3x7 (rRx7 HO_12.out) hb ho0 ho1 ho2)
        have n2_ := Aside0.mk (kp3x7 (rRx7 HO_265003.out) hb ho0 ho1 ho2)
        have n3_ := Aside0.mk (kp3x7 (rRx7 HO_265004.out) hb ho0 ho1 ho2)
        have n4_ := Aside0.mk (kp3x7 (rRx7 HO_265005.out) hb ho0 ho1 ho2)
        have n5_ := Aside0.mk (kp3x7 (rRx7 HO_278003.out) hb ho0 ho1 ho2)
        have n6_ := Aside0.mk (kp3x7 (rRx7 HO_278004.out) hb ho0 ho1 ho2)
        have n7_ := Aside0.mk (kp3x7 (rRx7 HO_278005.out) hb ho0 ho1 ho2)
        have n8_ := Aside0.mk (Kd.R_lower (nwx7 (nwx7 (nwx7 (nwx7 (nwx7 (nwx7 (nwx7 (nwx7 ho0 (rRx7 HO_8.out)) (rRx7 HO_12.out)) (rRx7 HO_265003.out)) (rRx7 HO_265004.out)) (rRx7 HO_265005.out)) (rRx7 HO_278003.out)) (rRx7 HO_278004.out)) (rRx7 HO_278005.out)) (below_size (be4x7 HB.out GE220.out GE221.out GE264.out GE277.out)))
        have n9_ := Aside0.mk (Kd.R_lower (nwx7 (nwx7 (nwx7 (nwx7 (nwx7 (nwx7 (nwx7 (nwx7 ho1 (rRx7 HO_8.out)) (rRx7 HO_12.out)) (rRx7 HO_265003.out)) (rRx7 HO_265004.out)) (rRx7 HO_265005.out)) (rRx7 HO_278003.out)) (rRx7 HO_278004.out)) (rRx7 HO_278005.out)) (below_size (be4x7 HB.out GE220.out GE221.out GE264.out GE277.out)))
        have n10_ := Aside0.mk (Kd.R_lower (nwx7 (nwx7 (nwx7 (nwx7 (nwx7 (nwx7 (nwx7 (nwx7 ho2 (rRx7 HO_8.out)) (rRx7 HO_12.out)) (rRx7 HO_265003.out)) (rRx7 HO_265004.out)) (rRx7 HO_265005.out)) (rRx7 HO_278003.out)) (rRx7 HO_278004.out)) (rRx7 HO_278005.out)) (below_size (be4x7 HB.out GE220.out GE221.out GE264.out GE277.out)))
        have n11_ := Aside0.mk (blk_below (g := gb220) (o := .cells #[.int .i64 a0_0, .int .i64 a0_1, .int .i64 a0_2, .slice A0_3 l0_3.length c0_3, .slice A0_4 l0_4.length c0_4, .slice A0_5 l0_5.length c0_5] 26 (0, 0)) (rBx7 BK220.out) hb)
        have n12_ := Aside0.mk (blk_below (g := gb221) (o := .cells #[.int .i64 a1_0, .int .i64 a1_1, .int .i64 a1_2, .slice A1_3 l1_3.length c1_3, .slice A1_4 l1_4.length c1_4, .slice A1_5 l1_5.length c1_5] 26 (0, 0)) (rBx7 BK221.out) hb)
        have n13_ := Aside0.mk (blk_below (g := gb264) (o := .cells #[.int .i64 t252, .int .i64 t253, .int .i64 t254, .slice Ao50 t255.length co50, .slice Ao51 t258.length co51, .slice Ao52 t261.length co52] 41 (0, 0)) (rBx7 BK264.out) hb)
        have n14_ := Aside0.mk (blk_below (g := gb277) (o := .cells #[.int .i64 t265, .int .i64 t266, .int .i64 t267, .slice Ao60 t268.length co60, .slice Ao61 t271.length co61, .slice Ao62 t274.length co62] 41 (0, 0)) (rBx7 BK277.out) hb)
        have n15_ := Aside0.mk (below_step (be4x7 HB.out GE220.out GE221.out GE264.out GE277.out) hb)
        clear HO_8
        clear HO_12
        clear HO_265003
        clear HO_265004
        clear HO_265005
        clear HO_278003
        clear HO_278004
        clear HO_278005
        clear BK220
        clear BK221
        clear BK264
        clear BK277
        clear HB
        have HO_8 := n0_
        have HO_12 := n1_
        have HO_265003 := n2_
        have HO_265004 := n3_
        have HO_265005 := n4_
        have HO_278003 := n5_
        have HO_278004 := n6_
        have HO_278005 := n7_
        have HO301 := n8_
        have HO304 := n9_
        have HO307 := n10_
        have BK220 := n11_
        have BK221 := n12_
        have BK264 := n13_
        have BK277 := n14_
        have HB := n15_
        clear n0_ n1_ n2_ n3_ n4_ n5_ n6_ n7_ n8_ n9_ n10_ n11_ n12_ n13_ n14_ n15_
        (try clear hb)
        (try clear hb2)
        (try clear hk)
        (try clear hi)
        (try clear ho0)
        (try clear ho1)
        (try clear ho2)
        obtain ⟨Ao87, co87, eo87⟩ := Kd.R_slice HO301.out
        (first | subst eo87 | (injection eo87 with f1_ f2_ f3_; have f4_ := f1_.symm; have f5_ := f3_.symm; clear f1_ f2_ f3_; subst f4_; subst f5_))
        obtain ⟨Ao88, co88, eo88⟩ := Kd.R_slice HO304.out
        (first | subst eo88 | (injection eo88 with f1_ f2_ f3_; have f4_ := f1_.symm; have f5_ := f3_.symm; clear f1_ f2_ f3_; subst f4_; subst f5_))
        obtain ⟨Ao89, co89, eo89⟩ := Kd.R_slice HO307.out
        (first | subst eo89 | (injection eo89 with f1_ f2_ f3_; have f4_ := f1_.symm; have f5_ := f3_.symm; clear f1_ f2_ f3_; subst f4_; subst f5_))
        refine hK.out _ _ (ca6x7 BK277.out (cc6x7 BK221.out)) (fun hHeld => ?_)
        clear hK K
        refine norm_ (a' := ?_) ?_ ?_
        rotate_left
        ·show Act.put _ (some 65) _ = _
         simp only [Act.put, List.setIfInBounds_toArray, List.set_cons_zero, List.set_cons_succ, i64_w, i32_w]
         rfl
        refine one_ (i := 3) (N := some 66) #[true, true, true, true, false] rfl rfl (by kernel_rfl) (by decide) (fun K hK => ?_)
        refine goes_ Try.func24 (by kernel_rfl) rfl #[.agg #[.int .i64 t265, .int .i64 t266, .int .i64 t267, .slice Ao60 t268.length co60, .slice Ao61 t271.length co61, .slice Ao62 t274.length co62], .agg #[.int .i64 t296, .int .i64 t297, .int .i64 t298, .slice Ao87 t299.length co87, .slice Ao88 t302.length co88, .slice Ao89 t305.length co89]] (by rfl) rfl rfl mpx7 ?_
        with_reducible refine (laws_eqModel.calls kj73 t265 t266 t267 _ _ t268 _ _ t271 _ _ t274 t296 t297 t298 _ _ t299 _ _ t302 _ _ t305 t308 _ ?side1 ?side2 ?side3 ?side4 ?side5 ?side6 ?side7 ?side8 ?side9 ?side10 ?side11 ?side12 A83.out).mono ?_
        (case side1 => exact cRx7 HO_278003.out)
        (case side2 => exact (Kd.R_reads' HO_278003.out).2.1)
        (case side3 => exact cRx7 HO_278004.out)
        (case side4 => exact (Kd.R_reads' HO_278004.out).2.1)
        (case side5 => exact cRx7 HO_278005.out)
        (case side6 => exact (Kd.R_reads' HO_278005.out).2.1)
        (case side7 => exact cRx7 HO301.out)
        (case side8 => exact (Kd.R_reads' HO301.out).2.1)
        (case side9 => exact cRx7 HO304.out)
        (case side10 => exact (Kd.R_reads' HO304.out).2.1)
        (case side11 => exact cRx7 HO307.out)
        (case side12 => exact (Kd.R_reads' HO307.out).2.1)
        rintro e w90 ⟨rfl, hb⟩
        refine ⟨_, rfl, ?_⟩
        have n0_ := Aside0.mk (Kd.R_below (rRx7 HO_8.out) hb)
        have n1_ := Aside0.mk (Kd.R_below (rRx7 HO_12.out) hb)
        have n2_ := Aside0.mk (Kd.R_below (rRx7 HO_265003.out) hb)
        have n3_ := Aside0.mk (Kd.R_below (rRx7 HO_265004.out) hb)
        have n4_ := Aside0.mk (Kd.R_below (rRx7 HO_265005.out) hb)
        have n5_ := Aside0.mk (Kd.R_below (rRx7 HO_278003.out) hb)
        have n6_ := Aside0.mk (Kd.R_below (rRx7 HO_278004.out) hb)
        have n7_ := Aside0.mk (Kd.R_below (rRx7 HO_278005.out) hb)
        have n8_ := Aside0.mk (Kd.R_below (rRx7 HO301.out) hb)
        have n9_ := Aside0.mk (Kd.R_below (rRx7 HO304.out) hb)
        have n10_ := Aside0.mk (Kd.R_below (rRx7 HO307.out) hb)
        have n11_ := Aside0.mk (blk_below (g := gb220) (o := .cells #[.int .i64 a0_0, .int .i64 a0_1, .int .i64 a0_2, .slice A0_3 l0_3.length c0_3, .slice A0_4 l0_4.length c0_4, .slice A0_5 l0_5.length c0_5] 26 (0, 0)) (rBx7 BK220.out) hb)
        have n12_ := Aside0.mk (blk_below (g := gb221) (o := .cells #[.int .i64 a1_0, .int .i64 a1_1, .int .i64 a1_2, .slice A1_3 l1_3.length c1_3, .slice A1_4 l1_4.length c1_4, .slice A1_5 l1_5.length c1_5] 26 (0, 0)) (rBx7 BK221.out) hb)
        have n13_ := Aside0.mk (blk_below (g := gb264) (o := .cells #[.int .i64 t252, .int .i64 t253, .int .i64 t254, .slice Ao50 t255.length co50, .slice Ao51 t258.length co51, .slice Ao52 t261.length co52] 41 (0, 0)) (rBx7 BK264.out) hb)
        have n14_ := Aside0.mk (blk_below (g := gb277) (o := .cells #[.int .i64 t265, .int .i64 t266, .int .i64 t267, .slice Ao60 t268.length co60, .slice Ao61 t271.length co61, .slice Ao62 t274.length co62] 41 (0, 0)) (rBx7 BK277.out) hb)
        have n15_ := Aside0.mk (below_step (be4x7 HB.out GE220.out GE221.out GE264.out GE277.out) hb)
        clear HO_8
        clear HO_12
        clear HO_265003
        clear HO_265004
        clear HO_265005
        clear HO_278003
        clear HO_278004
        clear HO_278005
        clear HO301
        clear HO304
        clear HO307
        clear BK220
        clear BK221
        clear BK264
        clear BK277
        clear HB
        have HO_8 := n0_
        have HO_12 := n1_
        have HO_265003 := n2_
        have HO_265004 := n3_
        have HO_265005 := n4_
        have HO_278003 := n5_
        have HO_278004 := n6_
        have HO_278005 := n7_
        have HO301 := n8_
        have HO304 := n9_
        have HO307 := n10_
        have BK220 := n11_
        have BK221 := n12_
        have BK264 := n13_
        have BK277 := n14_
        have HB := n15_
        clear n0_ n1_ n2_ n3_ n4_ n5_ n6_ n7_ n8_ n9_ n10_ n11_ n12_ n13_ n14_ n15_
        (try clear hb)
        (try clear hb2)
        (try clear hk)
        (try clear hi)
        refine hK.out _ _ (ca6x7 BK277.out (cc6x7 BK221.out)) (fun hHeld => ?_)
        clear hK K
        refine norm_ (a' := ?_) ?_ ?_
        rotate_left
        ·show Act.put _ (some 66) _ = _
         simp only [Act.put, List.setIfInBounds_toArray, List.set_cons_zero, List.set_cons_succ, i64_w, i32_w]
         rfl
        refine pure_ (i := 4) (N := some 67) (v := ?_) (a' := ?_) #[true, true, true, true, true] rfl rfl (by kernel_rfl) (fun _ _ _ h => h) (Or.inl ⟨by rfl, ?_⟩) ?_ ?_
        rotate_left
        ·intro w'
         go_simp
         with_reducible rfl
        rotate_left
        ·simp only [Act.put, List.setIfInBounds_toArray, List.set_cons_zero, List.set_cons_succ, i64_w, i32_w]
         rfl
        refine done_ (by kernel_rfl) ?_
        go_upto_if 67 with (fail)
        go_cut [] (fun wc => ∃ (kq : Nat), Aside0 (laws_FnExactSortTable.j2 kq a2 t248 t251 t278 t281 a0_0 a0_1 a0_2 l0_3 l0_4 l0_5 a1_0 a1_1 a1_2 l1_3 l1_4 l1_5 t252 t253 t254 t255 t258 t261 t265 t266 t267 t268 t271 t274 = some r) ∧ Aside0 (kq ≤ kj73) ∧ Aside0 (Kd.R (Kd.int .i64) 3 wc w.heap.size (fun k_ => some k_ ≠ (v279 : Value).ownBlock ∧ some k_ ≠ ((.slice Ao50 t255.length co50) : Value).ownBlock ∧ some k_ ≠ ((.slice Ao51 t258.length co51) : Value).ownBlock ∧ some k_ ≠ ((.slice Ao52 t261.length co52) : Value).ownBlock ∧ some k_ ≠ ((.slice Ao60 t268.length co60) : Value).ownBlock ∧ some k_ ≠ ((.slice Ao61 t271.length co61) : Value).ownBlock ∧ some k_ ≠ ((.slice Ao62 t274.length co62) : Value).ownBlock) v249 t248) ∧ Aside0 (Kd.R (Kd.int .i64) 3 wc w.heap.size (fun k_ => some k_ ≠ (v249 : Value).ownBlock ∧ some k_ ≠ ((.slice Ao50 t255.length co50) : Value).ownBlock ∧ some k_ ≠ ((.slice Ao51 t258.length co51) : Value).ownBlock ∧ some k_ ≠ ((.slice Ao52 t261.length co52) : Value).ownBlock ∧ some k_ ≠ ((.slice Ao60 t268.length co60) : Value).ownBlock ∧ some k_ ≠ ((.slice Ao61 t271.length co61) : Value).ownBlock ∧ some k_ ≠ ((.slice Ao62 t274.length co62) : Value).ownBlock) v279 t278) ∧ Aside0 (Kd.R (Kd.int .i64) 3 wc w.heap.size (fun k_ => some k_ ≠ (v249 : Value).ownBlock ∧ some k_ ≠ (v279 : Value).ownBlock ∧ some k_ ≠ ((.slice Ao51 t258.length co51) : Value).ownBlock ∧ some k_ ≠ ((.slice Ao52 t261.length co52) : Value).ownBlock ∧ some k_ ≠ ((.slice Ao60 t268.length co60) : Value).ownBlock ∧ some k_ ≠ ((.slice Ao61 t271.length co61) : Value).ownBlock ∧ some k_ ≠ ((.slice Ao62 t274.length co62) : Value).ownBlock) (.slice Ao50 t255.length co50) t255) ∧ Aside0 (Kd.R (Kd.int .i64) 3 wc w.heap.size (fun k_ => some k_ ≠ (v249 : Value).ownBlock ∧ some k_ ≠ (v279 : Value).ownBlock ∧ some k_ ≠ ((.slice Ao50 t255.length co50) : Value).ownBlock ∧ some k_ ≠ ((.slice Ao52 t261.length co52) : Value).ownBlock ∧ some k_ ≠ ((.slice Ao60 t268.length co60) : Value).ownBlock ∧ some k_ ≠ ((.slice Ao61 t271.length co61) : Value).ownBlock ∧ some k_ ≠ ((.slice Ao62 t274.length co62) : Value).ownBlock) (.slice Ao51 t258.length co51) t258) ∧ Aside0 (Kd.R (Kd.int .i64) 3 wc w.heap.size (fun k_ => some k_ ≠ (v249 : Value).ownBlock ∧ some k_ ≠ (v279 : Value).ownBlock ∧ some k_ ≠ ((.slice Ao50 t255.length co50) : Value).ownBlock ∧ some k_ ≠ ((.slice Ao51 t258.length co51) : Value).ownBlock ∧ some k_ ≠ ((.slice Ao60 t268.length co60) : Value).ownBlock ∧ some k_ ≠ ((.slice Ao61 t271.length co61) : Value).ownBlock ∧ some k_ ≠ ((.slice Ao62 t274.length co62) : Value).ownBlock) (.slice Ao52 t261.length co52) t261) ∧ Aside0 (Kd.R (Kd.int .i64) 3 wc w.heap.size (fun k_ => some k_ ≠ (v249 : Value).ownBlock ∧ some k_ ≠ (v279 : Value).ownBlock ∧ some k_ ≠ ((.slice Ao50 t255.length co50) : Value).ownBlock ∧ some k_ ≠ ((.slice Ao51 t258.length co51) : Value).ownBlock ∧ some k_ ≠ ((.slice Ao52 t261.length co52) : Value).ownBlock ∧ some k_ ≠ ((.slice Ao61 t271.length co61) : Value).ownBlock ∧ some k_ ≠ ((.slice Ao62 t274.length co62) : Value).ownBlock) (.slice Ao60 t268.length co60) t268) ∧ Aside0 (Kd.R (Kd.int .i64) 3 wc w.heap.size (fun k_ => some k_ ≠ (v249 : Value).ownBlock ∧ some k_ ≠ (v279 : Value).ownBlock ∧ some k_ ≠ ((.slice Ao50 t255.length co50) : Value).ownBlock ∧ some k_ ≠ ((.slice Ao51 t258.length co51) : Value).ownBlock ∧ some k_ ≠ ((.slice Ao52 t261.length co52) : Value).ownBlock ∧ some k_ ≠ ((.slice Ao60 t268.length co60) : Value).ownBlock ∧ some k_ ≠ ((.slice Ao62 t274.length co62) : Value).ownBlock) (.slice Ao61 t271.length co61) t271) ∧ Aside0 (Kd.R (Kd.int .i64) 3 wc w.heap.size (fun k_ => some k_ ≠ (v249 : Value).ownBlock ∧ some k_ ≠ (v279 : Value).ownBlock ∧ some k_ ≠ ((.slice Ao50 t255.length co50) : Value).ownBlock ∧ some k_ ≠ ((.slice Ao51 t258.length co51) : Value).ownBlock ∧ some k_ ≠ ((.slice Ao52 t261.length co52) : Value).ownBlock ∧ some k_ ≠ ((.slice Ao60 t268.length co60) : Value).ownBlock ∧ some k_ ≠ ((.slice Ao61 t271.length co61) : Value).ownBlock) (.slice Ao62 t274.length co62) t274) ∧ Aside0 (wc.heap[gb220]? = some (.cells #[.int .i64 a0_0, .int .i64 a0_1, .int .i64 a0_2, (.slice A0_3 l0_3.length c0_3), (.slice A0_4 l0_4.length c0_4), (.slice A0_5 l0_5.length c0_5)] 26 (0, 0))) ∧ Aside0 (wc.heap[gb221]? = some (.cells #[.int .i64 a1_0, .int .i64 a1_1, .int .i64 a1_2, (.slice A1_3 l1_3.length c1_3), (.slice A1_4 l1_4.length c1_4), (.slice A1_5 l1_5.length c1_5)] 26 (0, 0))) ∧ Aside0 (wc.heap[gb264]? = some (.cells #[.int .i64 t252, .int .i64 t253, .int .i64 t254, (.slice Ao50 t255.length co50), (.slice Ao51 t258.length co51), (.slice Ao52 t261.length co52)] 41 (0, 0))) ∧ Aside0 (wc.heap[gb277]? = some (.cells #[.int .i64 t265, .int .i64 t266, .int .i64 t267, (.slice Ao60 t268.length co60), (.slice Ao61 t271.length co61), (.slice Ao62 t274.length co62)] 41 (0, 0))) ∧ Aside0 (Below w.heap.size w wc))
        case first =>
         have H := HC84.out
         clear HC84
         by_cases c91 : t308 = true
         ·subst c91
          have H1 : (laws_FnExactSortTable.j2 kj73 a2 t248 t251 t278 t281 a0_0 a0_1 a0_2 l0_3 l0_4 l0_5 a1_0 a1_1 a1_2 l1_3 l1_4 l1_5 t252 t253 t254 t255 t258 t261 t265 t266 t267 t268 t271 t274) = some r := by rw [if_pos rfl] at H; exact H
          clear H
          have H := H1
          clear H1
          have H' := Aside0.mk H
          clear H
          go_wp2
          go_meet
          case rel => exact ⟨_, H', ⟨by have := HJ25.out; have := HJ73.out; first | omega | exact Nat.le_refl _⟩, ⟨by exact rRx7 (mox7 HO_8.out)⟩, ⟨by exact rRx7 (mox7 HO_12.out)⟩, ⟨by exact rRx7 (mox7 HO_265003.out)⟩, ⟨by exact rRx7 (mox7 HO_265004.out)⟩, ⟨by exact rRx7 (mox7 HO_265005.out)⟩, ⟨by exact rRx7 (mox7 HO_278003.out)⟩, ⟨by exact rRx7 (mox7 HO_278004.out)⟩, ⟨by exact rRx7 (mox7 HO_278005.out)⟩, ⟨rBx7 BK220.out⟩, ⟨rBx7 BK221.out⟩, ⟨rBx7 BK264.out⟩, ⟨rBx7 BK277.out⟩, ⟨be4x7 HB.out GE220.out GE221.out GE264.out GE277.out⟩⟩
         ·replace c91 := Bool.eq_false_iff.mpr c91
          subst c91
          have H1 : (some false) = some r := by rw [if_neg (show ¬ (false = true) by decide)] at H; exact H
          clear H
          have H := H1
          clear H1
          obtain rfl := Option.some.inj H
          go_wp2
          go_ret
          exact ⟨by first | rfl | (simp [errW_none, errW_some] <;> rfl) | (simp [*, errW_none, errW_some] <;> rfl), be4x7 HB.out GE220.out GE221.out GE264.out GE277.out⟩
        case rest =>
         clear HC84
         try clear c91
         obtain ⟨kq, HA, HJ83, HO_8, HO_12, HO_265003, HO_265004, HO_265005, HO_278003, HO_278004, HO_278005, BK220, BK221, BK264, BK277, HB⟩ := hcut
         cases kq with
         | zero => exact absurd HA.out (by simp [laws_FnExactSortTable.j2])
         | succ kj83 =>
          have H := HA.out
          clear HA
          simp only [laws_FnExactSortTable.j2] at H
          replace H := Option.bind_eq_some_iff.mp H
          obtain ⟨⟨t309, t310, t311, t312⟩, A920, H⟩ := H
          (try dsimp only at H)
          have A92 := Aside0.mk A920
          clear A920
          replace H := Option.bind_eq_some_iff.mp H
          obtain ⟨⟨t313, t314, t315, t316⟩, A930, H⟩ := H
          (try dsimp only at H)
          have A93 := Aside0.mk A930
          clear A930
          have HC94 := Aside0.mk H
          clear H
          have hnb95 := NB264_220.out
          have hnc95 := NB220_264.out
          have hnb96 := NB264_221.out
          have hnc96 := NB221_264.out
          have hnb97 := NB264_277.out
          have hnc97 := NB277_264.out
          obtain ⟨hcz98_0, hcz98_1, hcz98_2, hcz98_3, hcz98_4, hcz98_5, hfz98_0, hfz98_1, hfz98_2, hfz98_3, hfz98_4, hfz98_5⟩ := cf6x7 BK264.out
          go_upto_region 21 with (first | ((with_reducible refine gate_callee (f := 27) rfl ?_); refine goesL_ (some 70) rfl rfl Try.func27 (by kernel_rfl) rfl #[.agg #[.int .i64 t252, .int .i64 t253, .int .i64 t254, .slice Ao50 t255.length co50, .slice Ao51 t258.length co51, .slice Ao52 t261.length co52], .int .i64 1] rfl mpx7 ?_; (with_reducible refine (laws_markModel.calls kj83 t252 t253 t254 (fun k_ => some k_ = (.slice Ao50 t255.length co50 : Value).ownBlock) (.slice Ao50 t255.length co50) t255 (fun k_ => some k_ = (.slice Ao51 t258.length co51 : Value).ownBlock) (.slice Ao51 t258.length co51) t258 (fun k_ => some k_ = (.slice Ao52 t261.length co52 : Value).ownBlock) (.slice Ao52 t261.length co52) t261 1 t309 t310 t311 t312 w _ ?side1 ?side2 ?side3 ?side4 ?side5 ?side6 ?side7 ?side8 ?side9 ?side10 A92.out).mono ?_); (case side1 => exact be4x7 HB.out GE220.out GE221.out GE264.out GE277.out); (case side2 => exact Kd.R_tight rfl HO_265003.out); (case side3 => exact fun k_ e_ => (HO_265003.out.1 k_ e_.symm).2.2.1); (case side4 => exact fun k_ e_ => (HO_265003.out.1 k_ e_.symm).2.2.2.1); (case side5 => exact Kd.R_tight rfl HO_265004.out); (case side6 => exact fun k_ e_ => (HO_265004.out.1 k_ e_.symm).2.2.1); (case side7 => exact fun k_ e_ => (HO_265004.out.1 k_ e_.symm).2.2.2.1); (case side8 => exact Kd.R_tight rfl HO_265005.out); (case side9 => exact fun k_ e_ => (HO_265005.out.1 k_ e_.symm).2.2.1); (case side10 => exact fun k_ e_ => (HO_265005.out.1 k_ e_.symm).2.2.2.1); rintro e w99 ⟨rfl, hy0, hy1, hy2, hb, hkp⟩; refine ⟨_, rfl, ?_⟩; replace HO_8 := Aside0.mk (Kd.R_mono (ok' := fun k_ => some k_ ≠ (v279 : Value).ownBlock ∧ some k_ ≠ (.slice Ao50 t255.length co50 : Value).ownBlock ∧ some k_ ≠ (.slice Ao51 t258.length co51 : Value).ownBlock ∧ some k_ ≠ (.slice Ao52 t261.length co52 : Value).ownBlock ∧ some k_ ≠ (.slice Ao60 t268.length co60 : Value).ownBlock ∧ some k_ ≠ (.slice Ao61 t271.length co61 : Value).ownBlock ∧ some k_ ≠ (.slice Ao62 t274.length co62 : Value).ownBlock) (Kd.R_keptB (HO_8.out) hkp (fun k_ hk_ hs_ => Or.elim hs_ (fun e_ => (hk_.2.1) e_) (fun e_ => Or.elim e_ (fun e_ => (hk_.2.2.1) e_) (fun e_ => (hk_.2.2.2.1) e_)))) (fun k_ hk_ => ⟨hk_.1.1, hk_.1.2.1, hk_.1.2.2.1, hk_.1.2.2.2.1, hk_.1.2.2.2.2.1, hk_.1.2.2.2.2.2.1, hk_.1.2.2.2.2.2.2⟩)); replace HO_12 := Aside0.mk (Kd.R_mono (ok' := fun k_ => some k_ ≠ (v249 : Value).ownBlock ∧ some k_ ≠ (.slice Ao50 t255.length co50 : Value).ownBlock ∧ some k_ ≠ (.slice Ao51 t258.length co51 : Value).ownBlock ∧ some k_ ≠ (.slice Ao52 t261.length co52 : Value).ownBlock ∧ some k_ ≠ (.slice Ao60 t268.length co60 : Value).ownBlock ∧ some k_ ≠ (.slice Ao61 t271.length co61 : Value).ownBlock ∧ some k_ ≠ (.slice Ao62 t274.length co62 : Value).ownBlock) (Kd.R_keptB (HO_12.out) hkp (fun k_ hk_ hs_ => Or.elim hs_ (fun e_ => (hk_.2.1) e_) (fun e_ => Or.elim e_ (fun e_ => (hk_.2.2.1) e_) (fun e_ => (hk_.2.2.2.1) e_)))) (fun k_ hk_ => ⟨hk_.1.1, hk_.1.2.1, hk_.1.2.2.1, hk_.1.2.2.2.1, hk_.1.2.2.2.2.1, hk_.1.2.2.2.2.2.1, hk_.1.2.2.2.2.2.2⟩)); replace HO_278003 := Aside0.mk (Kd.R_mono (ok' := fun k_ => some k_ ≠ (v249 : Value).ownBlock ∧ some k_ ≠ (v279 : Value).ownBlock ∧ some k_ ≠ (.slice Ao50 t255.length co50 : Value).ownBlock ∧ some k_ ≠ (.slice Ao51 t258.length co51 : Value).ownBlock ∧ some k_ ≠ (.slice Ao52 t261.length co52 : Value).ownBlock ∧ some k_ ≠ (.slice Ao61 t271.length co61 : Value).ownBlock ∧ some k_ ≠ (.slice Ao62 t274.length co62 : Value).ownBlock) (Kd.R_keptB (HO_278003.out) hkp (fun k_ hk_ hs_ => Or.elim hs_ (fun e_ => (hk_.2.2.1) e_) (fun e_ => Or.elim e_ (fun e_ => (hk_.2.2.2.1) e_) (fun e_ => (hk_.2.2.2.2.1) e_)))) (fun k_ hk_ => ⟨hk_.1.1, hk_.1.2.1, hk_.1.2.2.1, hk_.1.2.2.2.1, hk_.1.2.2.2.2.1, hk_.1.2.2.2.2.2.1, hk_.1.2.2.2.2.2.2⟩)); replace HO_278004 := Aside0.mk (Kd.R_mono (ok' := fun k_ => some k_ ≠ (v249 : Value).ownBlock ∧ some k_ ≠ (v279 : Value).ownBlock ∧ some k_ ≠ (.slice Ao50 t255.length co50 : Value).ownBlock ∧ some k_ ≠ (.slice Ao51 t258.length co51 : Value).ownBlock ∧ some k_ ≠ (.slice Ao52 t261.length co52 : Value).ownBlock ∧ some k_ ≠ (.slice Ao60 t268.length co60 : Value).ownBlock ∧ some k_ ≠ (.slice Ao62 t274.length co62 : Value).ownBlock) (Kd.R_keptB (HO_278004.out) hkp (fun k_ hk_ hs_ => Or.elim hs_ (fun e_ => (hk_.2.2.1) e_) (fun e_ => Or.elim e_ (fun e_ => (hk_.2.2.2.1) e_) (fun e_ => (hk_.2.2.2.2.1) e_)))) (fun k_ hk_ => ⟨hk_.1.1, hk_.1.2.1, hk_.1.2.2.1, hk_.1.2.2.2.1, hk_.1.2.2.2.2.1, hk_.1.2.2.2.2.2.1, hk_.1.2.2.2.2.2.2⟩)); replace HO_278005 := Aside0.mk (Kd.R_mono (ok' := fun k_ => some k_ ≠ (v249 : Value).ownBlock ∧ some k_ ≠ (v279 : Value).ownBlock ∧ some k_ ≠ (.slice Ao50 t255.length co50 : Value).ownBlock ∧ some k_ ≠ (.slice Ao51 t258.length co51 : Value).ownBlock ∧ some k_ ≠ (.slice Ao52 t261.length co52 : Value).ownBlock ∧ some k_ ≠ (.slice Ao60 t268.length co60 : Value).ownBlock ∧ some k_ ≠ (.slice Ao61 t271.length co61 : Value).ownBlock) (Kd.R_keptB (HO_278005.out) hkp (fun k_ hk_ hs_ => Or.elim hs_ (fun e_ => (hk_.2.2.1) e_) (fun e_ => Or.elim e_ (fun e_ => (hk_.2.2.2.1) e_) (fun e_ => (hk_.2.2.2.2.1) e_)))) (fun k_ hk_ => ⟨hk_.1.1, hk_.1.2.1, hk_.1.2.2.1, hk_.1.2.2.2.1, hk_.1.2.2.2.2.1, hk_.1.2.2.2.2.2.1, hk_.1.2.2.2.2.2.2⟩)); replace BK220 := Aside0.mk (blk_kept (rBx7 BK220.out) hkp (fun hs_ => Or.elim hs_ (fun e_ => (fun e_ => (Kd.R_ne HO_265003.out BK220.out (by decide)) e_) e_) (fun e_ => Or.elim e_ (fun e_ => (fun e_ => (Kd.R_ne HO_265004.out BK220.out (by decide)) e_) e_) (fun e_ => (fun e_ => (Kd.R_ne HO_265005.out BK220.out (by decide)) e_) e_)))); replace BK221 := Aside0.mk (blk_kept (rBx7 BK221.out) hkp (fun hs_ => Or.elim hs_ (fun e_ => (fun e_ => (Kd.R_ne HO_265003.out BK221.out (by decide)) e_) e_) (fun e_ => Or.elim e_ (fun e_ => (fun e_ => (Kd.R_ne HO_265004.out BK221.out (by decide)) e_) e_) (fun e_ => (fun e_ => (Kd.R_ne HO_265005.out BK221.out (by decide)) e_) e_)))); replace BK264 := Aside0.mk (blk_kept (rBx7 BK264.out) hkp (fun hs_ => Or.elim hs_ (fun e_ => (fun e_ => (Kd.R_ne HO_265003.out BK264.out (by decide)) e_) e_) (fun e_ => Or.elim e_ (fun e_ => (fun e_ => (Kd.R_ne HO_265004.out BK264.out (by decide)) e_) e_) (fun e_ => (fun e_ => (Kd.R_ne HO_265005.out BK264.out (by decide)) e_) e_)))); replace BK277 := Aside0.mk (blk_kept (rBx7 BK277.out) hkp (fun hs_ => Or.elim hs_ (fun e_ => (fun e_ => (Kd.R_ne HO_265003.out BK277.out (by decide)) e_) e_) (fun e_ => Or.elim e_ (fun e_ => (fun e_ => (Kd.R_ne HO_265004.out BK277.out (by decide)) e_) e_) (fun e_ => (fun e_ => (Kd.R_ne HO_265005.out BK277.out (by decide)) e_) e_)))); replace HO_265003 := Aside0.mk (Kd.R_reok rfl hy0 (fun k_ e_ => HO_265003.out.1 k_ e_)); replace HO_265004 := Aside0.mk (Kd.R_reok rfl hy1 (fun k_ e_ => HO_265004.out.1 k_ e_)); replace HO_265005 := Aside0.mk (Kd.R_reok rfl hy2 (fun k_ e_ => HO_265005.out.1 k_ e_)); replace HB := Aside0.mk (hb); (try clear hb); (try clear hkp); (try clear hy0); (try clear hy1); (try clear hy2); have hnb100 := NB277_220.out; have hnc100 := NB220_277.out; have hnb101 := NB277_221.out; have hnc101 := NB221_277.out; obtain ⟨hcz102_0, hcz102_1, hcz102_2, hcz102_3, hcz102_4, hcz102_5, hfz102_0, hfz102_1, hfz102_2, hfz102_3, hfz102_4, hfz102_5⟩ := cf6x7 BK277.out) | ((with_reducible refine gate_callee (f := 27) rfl ?_); refine goesL_ (some 73) rfl rfl Try.func27 (by kernel_rfl) rfl #[.agg #[.int .i64 t265, .int .i64 t266, .int .i64 t267, .slice Ao60 t268.length co60, .slice Ao61 t271.length co61, .slice Ao62 t274.length co62], .int .i64 t309] rfl mpx7 ?_; (with_reducible refine (laws_markModel.calls kj83 t265 t266 t267 (fun k_ => some k_ = (.slice Ao60 t268.length co60 : Value).ownBlock) (.slice Ao60 t268.length co60) t268 (fun k_ => some k_ = (.slice Ao61 t271.length co61 : Value).ownBlock) (.slice Ao61 t271.length co61) t271 (fun k_ => some k_ = (.slice Ao62 t274.length co62 : Value).ownBlock) (.slice Ao62 t274.length co62) t274 t309 t313 t314 t315 t316 w _ ?side1 ?side2 ?side3 ?side4 ?side5 ?side6 ?side7 ?side8 ?side9 ?side10 A93.out).mono ?_); (case side1 => exact be4x7 HB.out GE220.out GE221.out GE264.out GE277.out); (case side2 => exact Kd.R_tight rfl HO_278003.out); (case side3 => exact fun k_ e_ => (HO_278003.out.1 k_ e_.symm).2.2.2.2.2.1); (case side4 => exact fun k_ e_ => (HO_278003.out.1 k_ e_.symm).2.2.2.2.2.2); (case side5 => exact Kd.R_tight rfl HO_278004.out); (case side6 => exact fun k_ e_ => (HO_278004.out.1 k_ e_.symm).2.2.2.2.2.1); (case side7 => exact fun k_ e_ => (HO_278004.out.1 k_ e_.symm).2.2.2.2.2.2); (case side8 => exact Kd.R_tight rfl HO_278005.out); (case side9 => exact fun k_ e_ => (HO_278005.out.1 k_ e_.symm).2.2.2.2.2.1); (case side10 => exact fun k_ e_ => (HO_278005.out.1 k_ e_.symm).2.2.2.2.2.2); rintro e w103 ⟨rfl, hy0, hy1, hy2, hb, hkp⟩; refine ⟨_, rfl, ?_⟩; replace HO_8 := Aside0.mk (Kd.R_mono (ok' := fun k_ => some k_ ≠ (v279 : Value).ownBlock ∧ some k_ ≠ (.slice Ao50 t255.length co50 : Value).ownBlock ∧ some k_ ≠ (.slice Ao51 t258.length co51 : Value).ownBlock ∧ some k_ ≠ (.slice Ao52 t261.length co52 : Value).ownBlock ∧ some k_ ≠ (.slice Ao60 t268.length co60 : Value).ownBlock ∧ some k_ ≠ (.slice Ao61 t271.length co61 : Value).ownBlock ∧ some k_ ≠ (.slice Ao62 t274.length co62 : Value).ownBlock) (Kd.R_keptB (HO_8.out) hkp (fun k_ hk_ hs_ => Or.elim hs_ (fun e_ => (hk_.2.2.2.2.1) e_) (fun e_ => Or.elim e_ (fun e_ => (hk_.2.2.2.2.2.1) e_) (fun e_ => (hk_.2.2.2.2.2.2) e_)))) (fun k_ hk_ => ⟨hk_.1.1, hk_.1.2.1, hk_.1.2.2.1, hk_.1.2.2.2.1, hk_.1.2.2.2.2.1, hk_.1.2.2.2.2.2.1, hk_.1.2.2.2.2.2.2⟩)); replace HO_12 := Aside0.mk (Kd.R_mono (ok' := fun k_ => some k_ ≠ (v249 : Value).ownBlock ∧ some k_ ≠ (.slice Ao50 t255.length co50 : Value).ownBlock ∧ some k_ ≠ (.slice Ao51 t258.length co51 : Value).ownBlock ∧ some k_ ≠ (.slice Ao52 t261.length co52 : Value).ownBlock ∧ some k_ ≠ (.slice Ao60 t268.length co60 : Value).ownBlock ∧ some k_ ≠ (.slice Ao61 t271.length co61 : Value).ownBlock ∧ some k_ ≠ (.slice Ao62 t274.length co62 : Value).ownBlock) (Kd.R_keptB (HO_12.out) hkp (fun k_ hk_ hs_ => Or.elim hs_ (fun e_ => (hk_.2.2.2.2.1) e_) (fun e_ => Or.elim e_ (fun e_ => (hk_.2.2.2.2.2.1) e_) (fun e_ => (hk_.2.2.2.2.2.2) e_)))) (fun k_ hk_ => ⟨hk_.1.1, hk_.1.2.1, hk_.1.2.2.1, hk_.1.2.2.2.1, hk_.1.2.2.2.2.1, hk_.1.2.2.2.2.2.1, hk_.1.2.2.2.2.2.2⟩)); replace HO_265003 := Aside0.mk (Kd.R_mono (ok' := fun k_ => some k_ ≠ (v249 : Value).ownBlock ∧ some k_ ≠ (v279 : Value).ownBlock ∧ some k_ ≠ (.slice Ao51 t258.length co51 : Value).ownBlock ∧ some k_ ≠ (.slice Ao52 t261.length co52 : Value).ownBlock ∧ some k_ ≠ (.slice Ao60 t268.length co60 : Value).ownBlock ∧ some k_ ≠ (.slice Ao61 t271.length co61 : Value).ownBlock ∧ some k_ ≠ (.slice Ao62 t274.length co62 : Value).ownBlock) (Kd.R_keptB (HO_265003.out) hkp (fun k_ hk_ hs_ => Or.elim hs_ (fun e_ => (hk_.2.2.2.2.1) e_) (fun e_ => Or.elim e_ (fun e_ => (hk_.2.2.2.2.2.1) e_) (fun e_ => (hk_.2.2.2.2.2.2) e_)))) (fun k_ hk_ => ⟨hk_.1.1, hk_.1.2.1, hk_.1.2.2.1, hk_.1.2.2.2.1, hk_.1.2.2.2.2.1, hk_.1.2.2.2.2.2.1, hk_.1.2.2.2.2.2.2⟩)); replace HO_265004 := Aside0.mk (Kd.R_mono (ok' := fun k_ => some k_ ≠ (v249 : Value).ownBlock ∧ some k_ ≠ (v279 : Value).ownBlock ∧ some k_ ≠ (.slice Ao50 t255.length co50 : Value).ownBlock ∧ some k_ ≠ (.slice Ao52 t261.length co52 : Value).ownBlock ∧ some k_ ≠ (.slice Ao60 t268.length co60 : Value).ownBlock ∧ some k_ ≠ (.slice Ao61 t271.length co61 : Value).ownBlock ∧ some k_ ≠ (.slice Ao62 t274.length co62 : Value).ownBlock) (Kd.R_keptB (HO_265004.out) hkp (fun k_ hk_ hs_ => Or.elim hs_ (fun e_ => (hk_.2.2.2.2.1) e_) (fun e_ => Or.elim e_ (fun e_ => (hk_.2.2.2.2.2.1) e_) (fun e_ => (hk_.2.2.2.2.2.2) e_)))) (fun k_ hk_ => ⟨hk_.1.1, hk_.1.2.1, hk_.1.2.2.1, hk_.1.2.2.2.1, hk_.1.2.2.2.2.1, hk_.1.2.2.2.2.2.1, hk_.1.2.2.2.2.2.2⟩)); replace HO_265005 := Aside0.mk (Kd.R_mono (ok' := fun k_ => some k_ ≠ (v249 : Value).ownBlock ∧ some k_ ≠ (v279 : Value).ownBlock ∧ some k_ ≠ (.slice Ao50 t255.length co50 : Value).ownBlock ∧ some k_ ≠ (.slice Ao51 t258.length co51 : Value).ownBlock ∧ some k_ ≠ (.slice Ao60 t268.length co60 : Value).ownBlock ∧ some k_ ≠ (.slice Ao61 t271.length co61 : Value).ownBlock ∧ some k_ ≠ (.slice Ao62 t274.length co62 : Value).ownBlock) (Kd.R_keptB (HO_265005.out) hkp (fun k_ hk_ hs_ => Or.elim hs_ (fun e_ => (hk_.2.2.2.2.1) e_) (fun e_ => Or.elim e_ (fun e_ => (hk_.2.2.2.2.2.1) e_) (fun e_ => (hk_.2.2.2.2.2.2) e_)))) (fun k_ hk_ => ⟨hk_.1.1, hk_.1.2.1, hk_.1.2.2.1, hk_.1.2.2.2.1, hk_.1.2.2.2.2.1, hk_.1.2.2.2.2.2.1, hk_.1.2.2.2.2.2.2⟩)); replace BK220 := Aside0.mk (blk_kept (rBx7 BK220.out) hkp (fun hs_ => Or.elim hs_ (fun e_ => (fun e_ => (Kd.R_ne HO_278003.out BK220.out (by decide)) e_) e_) (fun e_ => Or.elim e_ (fun e_ => (fun e_ => (Kd.R_ne HO_278004.out BK220.out (by decide)) e_) e_) (fun e_ => (fun e_ => (Kd.R_ne HO_278005.out BK220.out (by decide)) e_) e_)))); replace BK221 := Aside0.mk (blk_kept (rBx7 BK221.out) hkp (fun hs_ => Or.elim hs_ (fun e_ => (fun e_ => (Kd.R_ne HO_278003.out BK221.out (by decide)) e_) e_) (fun e_ => Or.elim e_ (fun e_ => (fun e_ => (Kd.R_ne HO_278004.out BK221.out (by decide)) e_) e_) (fun e_ => (fun e_ => (Kd.R_ne HO_278005.out BK221.out (by decide)) e_) e_)))); replace BK264 := Aside0.mk (blk_kept (rBx7 BK264.out) hkp (fun hs_ => Or.elim hs_ (fun e_ => (fun e_ => (Kd.R_ne HO_278003.out BK264.out (by decide)) e_) e_) (fun e_ => Or.elim e_ (fun e_ => (fun e_ => (Kd.R_ne HO_278004.out BK264.out (by decide)) e_) e_) (fun e_ => (fun e_ => (Kd.R_ne HO_278005.out BK264.out (by decide)) e_) e_)))); replace BK277 := Aside0.mk (blk_kept (rBx7 BK277.out) hkp (fun hs_ => Or.elim hs_ (fun e_ => (fun e_ => (Kd.R_ne HO_278003.out BK277.out (by decide)) e_) e_) (fun e_ => Or.elim e_ (fun e_ => (fun e_ => (Kd.R_ne HO_278004.out BK277.out (by decide)) e_) e_) (fun e_ => (fun e_ => (Kd.R_ne HO_278005.out BK277.out (by decide)) e_) e_)))); replace HO_278003 := Aside0.mk (Kd.R_reok rfl hy0 (fun k_ e_ => HO_278003.out.1 k_ e_)); replace HO_278004 := Aside0.mk (Kd.R_reok rfl hy1 (fun k_ e_ => HO_278004.out.1 k_ e_)); replace HO_278005 := Aside0.mk (Kd.R_reok rfl hy2 (fun k_ e_ => HO_278005.out.1 k_ e_)); replace HB := Aside0.mk (hb); (try clear hb); (try clear hkp); (try clear hy0); (try clear hy1); (try clear hy2)))
          (try simp only [Act.put, List.setIfInBounds_toArray, List.set_cons_zero, List.set_cons_succ])
          go_cut [86] (fun v86 wc => ∃ (kq : Nat) (x86_93 : Bool), v86 = .bool x86_93 ∧ Aside0 (laws_FnExactSortTable.j3 kq a2 t248 t251 t278 x86_93 a0_0 a0_1 a0_2 l0_3 l0_4 l0_5 a1_0 a1_1 a1_2 l1_3 l1_4 l1_5 = some r) ∧ Aside0 (kq ≤ kj83) ∧ Aside0 (Kd.R (Kd.int .i64) 3 wc w.heap.size (fun k_ => some k_ ≠ (v279 : Value).ownBlock ∧ some k_ ≠ ((.slice Ao50 t255.length co50) : Value).ownBlock ∧ some k_ ≠ ((.slice Ao51 t258.length co51) : Value).ownBlock ∧ some k_ ≠ ((.slice Ao52 t261.length co52) : Value).ownBlock ∧ some k_ ≠ ((.slice Ao60 t268.length co60) : Value).ownBlock ∧ some k_ ≠ ((.slice Ao61 t271.length co61) : Value).ownBlock ∧ some k_ ≠ ((.slice Ao62 t274.length co62) : Value).ownBlock) v249 t248) ∧ Aside0 (Kd.R (Kd.int .i64) 3 wc w.heap.size (fun k_ => some k_ ≠ (v249 : Value).ownBlock ∧ some k_ ≠ ((.slice Ao50 t255.length co50) : Value).ownBlock ∧ some k_ ≠ ((.slice Ao51 t258.length co51) : Value).ownBlock ∧ some k_ ≠ ((.slice Ao52 t261.length co52) : Value).ownBlock ∧ some k_ ≠ ((.slice Ao60 t268.length co60) : Value).ownBlock ∧ some k_ ≠ ((.slice Ao61 t271.length co61) : Value).ownBlock ∧ some k_ ≠ ((.slice Ao62 t274.length co62) : Value).ownBlock) v279 t278) ∧ Aside0 (Kd.R (Kd.int .i64) 3 wc w.heap.size (fun k_ => some k_ ≠ (v249 : Value).ownBlock ∧ some k_ ≠ (v279 : Value).ownBlock ∧ some k_ ≠ ((.slice Ao51 t258.length co51) : Value).ownBlock ∧ some k_ ≠ ((.slice Ao52 t261.length co52) : Value).ownBlock ∧ some k_ ≠ ((.slice Ao60 t268.length co60) : Value).ownBlock ∧ some k_ ≠ ((.slice Ao61 t271.length co61) : Value).ownBlock ∧ some k_ ≠ ((.slice Ao62 t274.length co62) : Value).ownBlock) (.slice Ao50 t255.length co50) t310) ∧ Aside0 (Kd.R (Kd.int .i64) 3 wc w.heap.size (fun k_ => some k_ ≠ (v249 : Value).ownBlock ∧ some k_ ≠ (v279 : Value).ownBlock ∧ some k_ ≠ ((.slice Ao50 t255.length co50) : Value).ownBlock ∧ some k_ ≠ ((.slice Ao52 t261.length co52) : Value).ownBlock ∧ some k_ ≠ ((.slice Ao60 t268.length co60) : Value).ownBlock ∧ some k_ ≠ ((.slice Ao61 t271.length co61) : Value).ownBlock ∧ some k_ ≠ ((.slice Ao62 t274.length co62) : Value).ownBlock) (.slice Ao51 t258.length co51) t311) ∧ Aside0 (Kd.R (Kd.int .i64) 3 wc w.heap.size (fun k_ => some k_ ≠ (v249 : Value).ownBlock ∧ some k_ ≠ (v279 : Value).ownBlock ∧ some k_ ≠ ((.slice Ao50 t255.length co50) : Value).ownBlock ∧ some k_ ≠ ((.slice Ao51 t258.length co51) : Value).ownBlock ∧ some k_ ≠ ((.slice Ao60 t268.length co60) : Value).ownBlock ∧ some k_ ≠ ((.slice Ao61 t271.length co61) : Value).ownBlock ∧ some k_ ≠ ((.slice Ao62 t274.length co62) : Value).ownBlock) (.slice Ao52 t261.length co52) t312) ∧ Aside0 (Kd.R (Kd.int .i64) 3 wc w.heap.size (fun k_ => some k_ ≠ (v249 : Value).ownBlock ∧ some k_ ≠ (v279 : Value).ownBlock ∧ some k_ ≠ ((.slice Ao50 t255.length co50) : Value).ownBlock ∧ some k_ ≠ ((.slice Ao51 t258.length co51) : Value).ownBlock ∧ some k_ ≠ ((.slice Ao52 t261.length co52) : Value).ownBlock ∧ some k_ ≠ ((.slice Ao61 t271.length co61) : Value).ownBlock ∧ some k_ ≠ ((.slice Ao62 t274.length co62) : Value).ownBlock) (.slice Ao60 t268.length co60) t314) ∧ Aside0 (Kd.R (Kd.int .i64) 3 wc w.heap.size (fun k_ => some k_ ≠ (v249 : Value).ownBlock ∧ some k_ ≠ (v279 : Value).ownBlock ∧ some k_ ≠ ((.slice Ao50 t255.length co50) : Value).ownBlock ∧ some k_ ≠ ((.slice Ao51 t258.length co51) : Value).ownBlock ∧ some k_ ≠ ((.slice Ao52 t261.length co52) : Value).ownBlock ∧ some k_ ≠ ((.slice Ao60 t268.length co60) : Value).ownBlock ∧ some k_ ≠ ((.slice Ao62 t274.length co62) : Value).ownBlock) (.slice Ao61 t271.length co61) t315) ∧ Aside0 (Kd.R (Kd.int .i64) 3 wc w.heap.size (fun k_ => some k_ ≠ (v249 : Value).ownBlock ∧ some k_ ≠ (v279 : Value).ownBlock ∧ some k_ ≠ ((.slice Ao50 t255.length co50) : Value).ownBlock ∧ some k_ ≠ ((.slice Ao51 t258.length co51) : Value).ownBlock ∧ some k_ ≠ ((.slice Ao52 t261.length co52) : Value).ownBlock ∧ some k_ ≠ ((.slice Ao60 t268.length co60) : Value).ownBlock ∧ some k_ ≠ ((.slice Ao61 t271.length co61) : Value).ownBlock) (.slice Ao62 t274.length co62) t316) ∧ Aside0 (wc.heap[gb220]? = some (.cells #[.int .i64 a0_0, .int .i64 a0_1, .int .i64 a0_2, (.slice A0_3 l0_3.length c0_3), (.slice A0_4 l0_4.length c0_4), (.slice A0_5 l0_5.length c0_5)] 26 (0, 0))) ∧ Aside0 (wc.heap[gb221]? = some (.cells #[.int .i64 a1_0, .int .i64 a1_1, .int .i64 a1_2, (.slice A1_3 l1_3.length c1_3), (.slice A1_4 l1_4.length c1_4), (.slice A1_5 l1_5.length c1_5)] 26 (0, 0))) ∧ Aside0 (wc.heap[gb264]? = some (.cells #[.int .i64 t252, .int .i64 t253, .int .i64 t254, (.slice Ao50 t255.length co50), (.slice Ao51 t258.length co51), (.slice Ao52 t261.length co52)] 41 (0, 0))) ∧ Aside0 (wc.heap[gb277]? = some (.cells #[.int .i64 t265, .int .i64 t266, .int .i64 t267, (.slice Ao60 t268.length co60), (.slice Ao61 t271.length co61), (.slice Ao62 t274.length co62)] 41 (0, 0))) ∧ Aside0 (Below w.heap.size w wc))
          case first =>
           have H := HC94.out
           clear HC94
           by_cases c104 : t313 < 0
           ·rw [if_pos c104] at H
            have c104b0 : decide (t313 < 0) = true := decide_eq_true c104
            clear c104
            (first | rw [c104b0] | (simp only [i64_w, i32_w]; rw [c104b0]) | skip)
            have H' := Aside0.mk H
            clear H
            go_wp2
            go_meet
            case rel => exact ⟨_, (true), (by first | rfl | (simp; done) | (simp [*]; done)), H', ⟨by have := HJ25.out; have := HJ73.out; have := HJ83.out; first | omega | exact Nat.le_refl _⟩, ⟨rRx7 HO_8.out⟩, ⟨rRx7 HO_12.out⟩, ⟨rRx7 HO_265003.out⟩, ⟨rRx7 HO_265004.out⟩, ⟨rRx7 HO_265005.out⟩, ⟨rRx7 HO_278003.out⟩, ⟨rRx7 HO_278004.out⟩, ⟨rRx7 HO_278005.out⟩, ⟨rBx7 BK220.out⟩, ⟨rBx7 BK221.out⟩, ⟨rBx7 BK264.out⟩, ⟨rBx7 BK277.out⟩, ⟨be4x7 HB.out GE220.out GE221.out GE264.out GE277.out⟩⟩
           ·rw [if_neg c104] at H
            have c104b0 : decide (t313 < 0) = false := decide_eq_false c104
            clear c104
            (first | rw [c104b0] | (simp only [i64_w, i32_w]; rw [c104b0]) | skip)
            replace H := Option.bind_eq_some_iff.mp H
            obtain ⟨t317, A1050, H⟩ := H
            have A105 := Aside0.mk A1050
            clear A1050
            by_cases c106 : t317 = true
            ·subst c106
             have H1 : (laws_FnExactSortTable.j3 kj83 a2 t248 t251 t278 (t281 != t251) a0_0 a0_1 a0_2 l0_3 l0_4 l0_5 a1_0 a1_1 a1_2 l1_3 l1_4 l1_5) = some r := by rw [if_pos rfl] at H; exact H
             clear H
             have H := H1
             clear H1
             have H' := Aside0.mk H
             clear H
             obtain ⟨Ao107, co107, eo107⟩ := Kd.R_slice HO_12.out
             subst eo107
             obtain ⟨Ao108, co108, eo108⟩ := Kd.R_slice HO_8.out
             subst eo108
             go_wp2_with (first | (go_at_call 23; (with_reducible refine (laws_eqIntS.calls kj83 _ _ t278 _ _ t248 true _ ?side1 ?side2 ?side3 ?side4 A105.out).mono ?_); (case side1 => exact cRx7 HO_12.out); (case side2 => exact (Kd.R_reads' HO_12.out).2.1); (case side3 => exact cRx7 HO_8.out); (case side4 => exact (Kd.R_reads' HO_8.out).2.1); rintro e w' ⟨rfl, ⟨nd, rfl⟩⟩))
             go_meet
             case rel => exact ⟨_, ((t281 != t251)), (by first | rfl | (simp; done) | (simp [*]; done)), H', ⟨by have := HJ25.out; have := HJ73.out; have := HJ83.out; first | omega | exact Nat.le_refl _⟩, ⟨rRx7 HO_8.out⟩, ⟨rRx7 HO_12.out⟩, ⟨rRx7 HO_265003.out⟩, ⟨rRx7 HO_265004.out⟩, ⟨rRx7 HO_265005.out⟩, ⟨rRx7 HO_278003.out⟩, ⟨rRx7 HO_278004.out⟩, ⟨rRx7 HO_278005.out⟩, ⟨rBx7 BK220.out⟩, ⟨rBx7 BK221.out⟩, ⟨rBx7 BK264.out⟩, ⟨rBx7 BK277.out⟩, ⟨be4x7 HB.out GE220.out GE221.out GE264.out GE277.out⟩⟩
            ·replace c106 := Bool.eq_false_iff.mpr c106
             subst c106
             have H1 : (laws_FnExactSortTable.j3 kj83 a2 t248 t251 t278 true a0_0 a0_1 a0_2 l0_3 l0_4 l0_5 a1_0 a1_1 a1_2 l1_3 l1_4 l1_5) = some r := by rw [if_neg (show ¬ (false = true) by decide)] at H; exact H
             clear H
             have H := H1
             clear H1
             have H' := Aside0.mk H
             clear H
             obtain ⟨Ao109, co109, eo109⟩ := Kd.R_slice HO_12.out
             subst eo109
             obtain ⟨Ao110, co110, eo110⟩ := Kd.R_slice HO_8.out
             subst eo110
             go_wp2_with (first | (go_at_call 23; (with_reducible refine (laws_eqIntS.calls kj83 _ _ t278 _ _ t248 false _ ?side1 ?side2 ?side3 ?side4 A105.out).mono ?_); (case side1 => exact cRx7 HO_12.out); (case side2 => exact (Kd.R_reads' HO_12.out).2.1); (case side3 => exact cRx7 HO_8.out); (case side4 => exact (Kd.R_reads' HO_8.out).2.1); rintro e w' ⟨rfl, ⟨nd, rfl⟩⟩))
             go_meet
             case rel => exact ⟨_, (true), (by first | rfl | (simp; done) | (simp [*]; done)), H', ⟨by have := HJ25.out; have := HJ73.out; have := HJ83.out; first | omega | exact Nat.le_refl _⟩, ⟨rRx7 HO_8.out⟩, ⟨rRx7 HO_12.out⟩, ⟨rRx7 HO_265003.out⟩, ⟨rRx7 HO_265004.out⟩, ⟨rRx7 HO_265005.out⟩, ⟨rRx7 HO_278003.out⟩, ⟨rRx7 HO_278004.out⟩, ⟨rRx7 HO_278005.out⟩, ⟨rBx7 BK220.out⟩, ⟨rBx7 BK221.out⟩, ⟨rBx7 BK264.out⟩, ⟨rBx7 BK277.out⟩, ⟨be4x7 HB.out GE220.out GE221.out GE264.out GE277.out⟩⟩
          case rest =>
           clear HC94
           try clear c104; try clear c104b0; try clear c106; try clear hcz102_0 hcz102_1 hcz102_2 hcz102_3 hcz102_4 hcz102_5; try clear hcz98_0 hcz98_1 hcz98_2 hcz98_3 hcz98_4 hcz98_5; try clear hfz102_0 hfz102_1 hfz102_2 hfz102_3 hfz102_4 hfz102_5; try clear hfz98_0 hfz98_1 hfz98_2 hfz98_3 hfz98_4 hfz98_5
           obtain ⟨kq, x86_93, rfl, HA, HJ93, HO_8, HO_12, HO_265003, HO_265004, HO_265005, HO_278003, HO_278004, HO_278005, BK220, BK221, BK264, BK277, HB⟩ := hcut
           have hl265003_93 := (Kd.R_reads' HO_265003.out).1
           rw [hl265003_93] at HO_265003
           (try simp only [hl265003_93])
           (try simp only [hl265003_93] at BK220)
           (try simp only [hl265003_93] at BK221)
           (try simp only [hl265003_93] at BK264)
           (try simp only [hl265003_93] at BK277)
           (try simp only [hl265003_93] at HO_8)
           (try simp only [hl265003_93] at HO_12)
           (try simp only [hl265003_93] at HO_265004)
           (try simp only [hl265003_93] at HO_265005)
           (try simp only [hl265003_93] at HO_278003)
           (try simp only [hl265003_93] at HO_278004)
           (try simp only [hl265003_93] at HO_278005)
           have hl265004_93 := (Kd.R_reads' HO_265004.out).1
           rw [hl265004_93] at HO_265004
           (try simp only [hl265004_93])
           (try simp only [hl265004_93] at BK220)
           (try simp only [hl265004_93] at BK221)
           (try simp only [hl265004_93] at BK264)
           (try simp only [hl265004_93] at BK277)
           (try simp only [hl265004_93] at HO_8)
           (try simp only [hl265004_93] at HO_12)
           (try simp only [hl265004_93] at HO_265003)
           (try simp only [hl265004_93] at HO_265005)
           (try simp only [hl265004_93] at HO_278003)
           (try simp only [hl265004_93] at HO_278004)
           (try simp only [hl265004_93] at HO_278005)
           have hl265005_93 := (Kd.R_reads' HO_265005.out).1
           rw [hl265005_93] at HO_265005
           (try simp only [hl265005_93])
           (try simp only [hl265005_93] at BK220)
           (try simp only [hl265005_93] at BK221)
           (try simp only [hl265005_93] at BK264)
           (try simp only [hl265005_93] at BK277)
           (try simp only [hl265005_93] at HO_8)
           (try simp only [hl265005_93] at HO_12)
           (try simp only [hl265005_93] at HO_265003)
           (try simp only [hl265005_93] at HO_265004)
           (try simp only [hl265005_93] at HO_278003)
           (try simp only [hl265005_93] at HO_278004)
           (try simp only [hl265005_93] at HO_278005)
           have hl278003_93 := (Kd.R_reads' HO_278003.out).1
           rw [hl278003_93] at HO_278003
           (try simp only [hl278003_93])
           (try simp only [hl278003_93] at BK220)
           (try simp only [hl278003_93] at BK221)
           (try simp only [hl278003_93] at BK264)
           (try simp only [hl278003_93] at BK277)
           (try simp only [hl278003_93] at HO_8)
           (try simp only [hl278003_93] at HO_12)
           (try simp only [hl278003_93] at HO_265003)
           (try simp only [hl278003_93] at HO_265004)
           (try simp only [hl278003_93] at HO_265005)
           (try simp only [hl278003_93] at HO_278004)
           (try simp only [hl278003_93] at HO_278005)
           have hl278004_93 := (Kd.R_reads' HO_278004.out).1
           rw [hl278004_93] at HO_278004
           (try simp only [hl278004_93])
           (try simp only [hl278004_93] at BK220)
           (try simp only [hl278004_93] at BK221)
           (try simp only [hl278004_93] at BK264)
           (try simp only [hl278004_93] at BK277)
           (try simp only [hl278004_93] at HO_8)
           (try simp only [hl278004_93] at HO_12)
           (try simp only [hl278004_93] at HO_265003)
           (try simp only [hl278004_93] at HO_265004)
           (try simp only [hl278004_93] at HO_265005)
           (try simp only [hl278004_93] at HO_278003)
           (try simp only [hl278004_93] at HO_278005)
           have hl278005_93 := (Kd.R_reads' HO_278005.out).1
           rw [hl278005_93] at HO_278005
           (try simp only [hl278005_93])
           (try simp only [hl278005_93] at BK220)
           (try simp only [hl278005_93] at BK221)
           (try simp only [hl278005_93] at BK264)
           (try simp only [hl278005_93] at BK277)
           (try simp only [hl278005_93] at HO_8)
           (try simp only [hl278005_93] at HO_12)
           (try simp only [hl278005_93] at HO_265003)
           (try simp only [hl278005_93] at HO_265004)
           (try simp only [hl278005_93] at HO_265005)
           (try simp only [hl278005_93] at HO_278003)
           (try simp only [hl278005_93] at HO_278004)
           cases kq with
           | zero => exact absurd HA.out (by simp [laws_FnExactSortTable.j3])
           | succ kj93 =>
            have H := HA.out
            clear HA
            simp only [laws_FnExactSortTable.j3] at H
            by_cases c111 : x86_93 = true
            ·subst c111
             have H1 : (some false) = some r := by rw [if_pos rfl] at H; exact H
             clear H
             have H := H1
             clear H1
             obtain rfl := Option.some.inj H
             go_wp2
             go_ret
             exact ⟨by first | rfl | (simp [errW_none, errW_some] <;> rfl) | (simp [*, errW_none, errW_some] <;> rfl), be4x7 HB.out GE220.out GE221.out GE264.out GE277.out⟩
            ·replace c111 := Bool.eq_false_iff.mpr c111
             subst c111
             have H1 : ((laws_markIntS.f kj93 t278 1).bind fun bt318 => ((laws_heldIntS.f kj93 bt318.2 1).bind fun t320 => (if t320 < 0 then (some false) else (if t320 = bt318.1 then ((laws_toModel.f kj93 a0_0 a0_1 a0_2 l0_3 l0_4 l0_5).bind fun bt321 => ((laws_toModel.f kj93 a1_0 a1_1 a1_2 l1_3 l1_4 l1_5).bind fun bt333 => ((impl_SortTable.f kj93 bt321.1 bt321.2.1 bt321.2.2.1 bt321.2.2.2.1 bt321.2.2.2.2.1 bt321.2.2.2.2.2 bt333.1 bt333.2.1 bt333.2.2.1 bt333.2.2.2.1 bt333.2.2.2.2.1 bt333.2.2.2.2.2 a2).bind fun bt345 => ((laws_eqIntS.f kj93 bt345.1 t248).bind fun t349 => (if t349 = true then (laws_FnExactSortTable.j4 kj93 bt318.2 bt318.1 (bt345.2 != t251)) else (laws_FnExactSortTable.j4 kj93 bt318.2 bt318.1 true)))))) else (some false))))) = some r := by rw [if_neg (show ¬ (false = true) by decide)] at H; exact H
             clear H
             have H := H1
             clear H1
             replace H := Option.bind_eq_some_iff.mp H
             obtain ⟨⟨t318, t319⟩, A1120, H⟩ := H
             (try dsimp only at H)
             have A112 := Aside0.mk A1120
             clear A1120
             replace H := Option.bind_eq_some_iff.mp H
             obtain ⟨t320, A1130, H⟩ := H
             have A113 := Aside0.mk A1130
             clear A1130
             by_cases c114 : t320 < 0
             ·rw [if_pos c114] at H
              have c114b0 : decide (t320 < 0) = true := decide_eq_true c114
              clear c114
              obtain rfl := Option.some.inj H
              obtain ⟨Ao115, co115, eo115⟩ := Kd.R_slice HO_12.out
              subst eo115
              go_wp2_with (first | ((with_reducible refine gate_callee (f := 30) rfl ?_); refine goesL_ (some 89) rfl rfl Try.func30 (by kernel_rfl) rfl #[.slice Ao115 t278.length co115, .int .i64 1] rfl mpx7 ?_; (with_reducible refine (laws_markIntS.calls kj93 (fun k_ => some k_ = (.slice Ao115 t278.length co115 : Value).ownBlock) (.slice Ao115 t278.length co115) t278 1 t318 t319 w _ ?side1 ?side2 A112.out).mono ?_); (case side1 => exact be4x7 HB.out GE220.out GE221.out GE264.out GE277.out); (case side2 => exact Kd.R_tight rfl HO_12.out); rintro e w116 ⟨rfl, hy0, hb, hkp⟩; refine ⟨_, rfl, ?_⟩; replace HO_8 := Aside0.mk (Kd.R_mono (ok' := fun k_ => some k_ ≠ (.slice Ao115 t278.length co115 : Value).ownBlock ∧ some k_ ≠ (.slice Ao50 t310.length co50 : Value).ownBlock ∧ some k_ ≠ (.slice Ao51 t311.length co51 : Value).ownBlock ∧ some k_ ≠ (.slice Ao52 t312.length co52 : Value).ownBlock ∧ some k_ ≠ (.slice Ao60 t314.length co60 : Value).ownBlock ∧ some k_ ≠ (.slice Ao61 t315.length co61 : Value).ownBlock ∧ some k_ ≠ (.slice Ao62 t316.length co62 : Value).ownBlock) (Kd.R_keptB (HO_8.out) hkp (fun k_ hk_ hs_ => (hk_.1) hs_)) (fun k_ hk_ => ⟨hk_.1.1, hk_.1.2.1, hk_.1.2.2.1, hk_.1.2.2.2.1, hk_.1.2.2.2.2.1, hk_.1.2.2.2.2.2.1, hk_.1.2.2.2.2.2.2⟩)); replace HO_265003 := Aside0.mk (Kd.R_mono (ok' := fun k_ => some k_ ≠ (v249 : Value).ownBlock ∧ some k_ ≠ (.slice Ao115 t278.length co115 : Value).ownBlock ∧ some k_ ≠ (.slice Ao51 t311.length co51 : Value).ownBlock ∧ some k_ ≠ (.slice Ao52 t312.length co52 : Value).ownBlock ∧ some k_ ≠ (.slice Ao60 t314.length co60 : Value).ownBlock ∧ some k_ ≠ (.slice Ao61 t315.length co61 : Value).ownBlock ∧ some k_ ≠ (.slice Ao62 t316.length co62 : Value).ownBlock) (Kd.R_keptB (HO_265003.out) hkp (fun k_ hk_ hs_ => (hk_.2.1) hs_)) (fun k_ hk_ => ⟨hk_.1.1, hk_.1.2.1, hk_.1.2.2.1, hk_.1.2.2.2.1, hk_.1.2.2.2.2.1, hk_.1.2.2.2.2.2.1, hk_.1.2.2.2.2.2.2⟩)); replace HO_265004 := Aside0.mk (Kd.R_mono (ok' := fun k_ => some k_ ≠ (v249 : Value).ownBlock ∧ some k_ ≠ (.slice Ao115 t278.length co115 : Value).ownBlock ∧ some k_ ≠ (.slice Ao50 t310.length co50 : Value).ownBlock ∧ some k_ ≠ (.slice Ao52 t312.length co52 : Value).ownBlock ∧ some k_ ≠ (.slice Ao60 t314.length co60 : Value).ownBlock ∧ some k_ ≠ (.slice Ao61 t315.length co61 : Value).ownBlock ∧ some k_ ≠ (.slice Ao62 t316.length co62 : Value).ownBlock) (Kd.R_keptB (HO_265004.out) hkp (fun k_ hk_ hs_ => (hk_.2.1) hs_)) (fun k_ hk_ => ⟨hk_.1.1, hk_.1.2.1, hk_.1.2.2.1, hk_.1.2.2.2.1, hk_.1.2.2.2.2.1, hk_.1.2.2.2.2.2.1, hk_.1.2.2.2.2.2.2⟩)); replace HO_265005 := Aside0.mk (Kd.R_mono (ok' := fun k_ => some k_ ≠ (v249 : Value).ownBlock ∧ some k_ ≠ (.slice Ao115 t278.length co115 : Value).ownBlock ∧ some k_ ≠ (.slice Ao50 t310.length co50 : Value).ownBlock ∧ some k_ ≠ (.slice Ao51 t311.length co51 : Value).ownBlock ∧ some k_ ≠ (.slice Ao60 t314.length co60 : Value).ownBlock ∧ some k_ ≠ (.slice Ao61 t315.length co61 : Value).ownBlock ∧ some k_ ≠ (.slice Ao62 t316.length co62 : Value).ownBlock) (Kd.R_keptB (HO_265005.out) hkp (fun k_ hk_ hs_ => (hk_.2.1) hs_)) (fun k_ hk_ => ⟨hk_.1.1, hk_.1.2.1, hk_.1.2.2.1, hk_.1.2.2.2.1, hk_.1.2.2.2.2.1, hk_.1.2.2.2.2.2.1, hk_.1.2.2.2.2.2.2⟩)); replace HO_278003 := Aside0.mk (Kd.R_mono (ok' := fun k_ => some k_ ≠ (v249 : Value).ownBlock ∧ some k_ ≠ (.slice Ao115 t278.length co115 : Value).ownBlock ∧ some k_ ≠ (.slice Ao50 t310.length co50 : Value).ownBlock ∧ some k_ ≠ (.slice Ao51 t311.length co51 : Value).ownBlock ∧ some k_ ≠ (.slice Ao52 t312.length co52 : Value).ownBlock ∧ some k_ ≠ (.slice Ao61 t315.length co61 : Value).ownBlock ∧ some k_ ≠ (.slice Ao62 t316.length co62 : Value).ownBlock) (Kd.R_keptB (HO_278003.out) hkp (fun k_ hk_ hs_ => (hk_.2.1) hs_)) (fun k_ hk_ => ⟨hk_.1.1, hk_.1.2.1, hk_.1.2.2.1, hk_.1.2.2.2.1, hk_.1.2.2.2.2.1, hk_.1.2.2.2.2.2.1, hk_.1.2.2.2.2.2.2⟩)); replace HO_278004 := Aside0.mk (Kd.R_mono (ok' := fun k_ => some k_ ≠ (v249 : Value).ownBlock ∧ some k_ ≠ (.slice Ao115 t278.length co115 : Value).ownBlock ∧ some k_ ≠ (.slice Ao50 t310.length co50 : Value).ownBlock ∧ some k_ ≠ (.slice Ao51 t311.length co51 : Value).ownBlock ∧ some k_ ≠ (.slice Ao52 t312.length co52 : Value).ownBlock ∧ some k_ ≠ (.slice Ao60 t314.length co60 : Value).ownBlock ∧ some k_ ≠ (.slice Ao62 t316.length co62 : Value).ownBlock) (Kd.R_keptB (HO_278004.out) hkp (fun k_ hk_ hs_ => (hk_.2.1) hs_)) (fun k_ hk_ => ⟨hk_.1.1, hk_.1.2.1, hk_.1.2.2.1, hk_.1.2.2.2.1, hk_.1.2.2.2.2.1, hk_.1.2.2.2.2.2.1, hk_.1.2.2.2.2.2.2⟩)); replace HO_278005 := Aside0.mk (Kd.R_mono (ok' := fun k_ => some k_ ≠ (v249 : Value).ownBlock ∧ some k_ ≠ (.slice Ao115 t278.length co115 : Value).ownBlock ∧ some k_ ≠ (.slice Ao50 t310.length co50 : Value).ownBlock ∧ some k_ ≠ (.slice Ao51 t311.length co51 : Value).ownBlock ∧ some k_ ≠ (.slice Ao52 t312.length co52 : Value).ownBlock ∧ some k_ ≠ (.slice Ao60 t314.length co60 : Value).ownBlock ∧ some k_ ≠ (.slice Ao61 t315.length co61 : Value).ownBlock) (Kd.R_keptB (HO_278005.out) hkp (fun k_ hk_ hs_ => (hk_.2.1) hs_)) (fun k_ hk_ => ⟨hk_.1.1, hk_.1.2.1, hk_.1.2.2.1, hk_.1.2.2.2.1, hk_.1.2.2.2.2.1, hk_.1.2.2.2.2.2.1, hk_.1.2.2.2.2.2.2⟩)); replace BK220 := Aside0.mk (blk_kept (rBx7 BK220.out) hkp (fun hs_ => (fun e_ => (Kd.R_ne HO_12.out BK220.out (by decide)) e_) hs_)); replace BK221 := Aside0.mk (blk_kept (rBx7 BK221.out) hkp (fun hs_ => (fun e_ => (Kd.R_ne HO_12.out BK221.out (by decide)) e_) hs_)); replace BK264 := Aside0.mk (blk_kept (rBx7 BK264.out) hkp (fun hs_ => (fun e_ => (Kd.R_ne HO_12.out BK264.out (by decide)) e_) hs_)); replace BK277 := Aside0.mk (blk_kept (rBx7 BK277.out) hkp (fun hs_ => (fun e_ => (Kd.R_ne HO_12.out BK277.out (by decide)) e_) hs_)); replace HO_12 := Aside0.mk (Kd.R_reok rfl hy0 (fun k_ e_ => HO_12.out.1 k_ e_)); replace HB := Aside0.mk (hb); (try clear hb); (try clear hkp); (try clear hy0)) | ((with_reducible refine gate_callee (f := 31) rfl ?_); refine goesL_ (some 92) rfl rfl Try.func31 (by kernel_rfl) rfl #[.slice Ao115 t319.length co115, .int .i64 1] rfl (by (try simp only [List.map_toArray, List.map_cons, List.map_nil]); first | done | (rw [show t319.length = t278.length from (Kd.R_reads' HO_12.out).1.symm] <;> rfl) | rfl | (simp only [List.length_drop, List.length_take]; rfl)) ?_; (with_reducible refine (laws_heldIntS.calls kj93 _ _ t319 1 t320 _ ?side1 ?side2 A113.out).mono ?_); (case side1 => exact cRx7 HO_12.out); (case side2 => rw [show t319.length = t278.length from (Kd.R_reads' HO_12.out).1.symm]; exact (Kd.R_reads' HO_12.out).2.1); rintro e w' ⟨rfl, ⟨nd, rfl⟩⟩; refine ⟨_, rfl, ?_⟩))
              go_ret
              exact ⟨by first | rfl | (simp [errW_none, errW_some] <;> rfl) | (simp [*, errW_none, errW_some] <;> rfl), be4x7 HB.out GE220.out GE221.out GE264.out GE277.out⟩
             ·rw [if_neg c114] at H
              have c114b0 : decide (t320 < 0) = false := decide_eq_false c114
              clear c114
              by_cases c117 : t320 = t318
              ·rw [if_pos c117] at H
               have c117b0 : (t320 == t318) = true := beq_iff_eq.mpr c117
               have c117b1 : (t320 != t318) = false := bne_eq_false_iff_eq.mpr c117
               clear c117
               replace H := Option.bind_eq_some_iff.mp H
               obtain ⟨⟨t321, t322, t323, t324, t327, t330⟩, A1180, H⟩ := H
               (try dsimp only at H)
               have A118 := Aside0.mk A1180
               clear A1180
               replace H := Option.bind_eq_some_iff.mp H
               obtain ⟨⟨t333, t334, t335, t336, t339, t342⟩, A1190, H⟩ := H
               (try dsimp only at H)
               have A119 := Aside0.mk A1190
               clear A1190
               replace H := Option.bind_eq_some_iff.mp H
               obtain ⟨⟨t345, t348⟩, A1200, H⟩ := H
               (try dsimp only at H)
               have A120 := Aside0.mk A1200
               clear A1200
               have HC121 := Aside0.mk H
               clear H
               obtain ⟨Ao122, co122, eo122⟩ := Kd.R_slice HO_12.out
               subst eo122
               try go_wp2_with (first | ((with_reducible refine gate_callee (f := 30) rfl ?_); refine goesL_ (some 89) rfl rfl Try.func30 (by kernel_rfl) rfl #[.slice Ao122 t278.length co122, .int .i64 1] rfl mpx7 ?_; (with_reducible refine (laws_markIntS.calls kj93 (fun k_ => some k_ = (.slice Ao122 t278.length co122 : Value).ownBlock) (.slice Ao122 t278.length co122) t278 1 t318 t319 w _ ?side1 ?side2 A112.out).mono ?_); (case side1 => exact be4x7 HB.out GE220.out GE221.out GE264.out GE277.out); (case side2 => exact Kd.R_tight rfl HO_12.out); rintro e w123 ⟨rfl, hy0, hb, hkp⟩; refine ⟨_, rfl, ?_⟩; replace HO_8 := Aside0.mk (Kd.R_mono (ok' := fun k_ => some k_ ≠ (.slice Ao122 t278.length co122 : Value).ownBlock ∧ some k_ ≠ (.slice Ao50 t310.length co50 : Value).ownBlock ∧ some k_ ≠ (.slice Ao51 t311.length co51 : Value).ownBlock ∧ some k_ ≠ (.slice Ao52 t312.length co52 : Value).ownBlock ∧ some k_ ≠ (.slice Ao60 t314.length co60 : Value).ownBlock ∧ some k_ ≠ (.slice Ao61 t315.length co61 : Value).ownBlock ∧ some k_ ≠ (.slice Ao62 t316.length co62 : Value).ownBlock) (Kd.R_keptB (HO_8.out) hkp (fun k_ hk_ hs_ => (hk_.1) hs_)) (fun k_ hk_ => ⟨hk_.1.1, hk_.1.2.1, hk_.1.2.2.1, hk_.1.2.2.2.1, hk_.1.2.2.2.2.1, hk_.1.2.2.2.2.2.1, hk_.1.2.2.2.2.2.2⟩)); replace HO_265003 := Aside0.mk (Kd.R_mono (ok' := fun k_ => some k_ ≠ (v249 : Value).ownBlock ∧ some k_ ≠ (.slice Ao122 t278.length co122 : Value).ownBlock ∧ some k_ ≠ (.slice Ao51 t311.length co51 : Value).ownBlock ∧ some k_ ≠ (.slice Ao52 t312.length co52 : Value).ownBlock ∧ some k_ ≠ (.slice Ao60 t314.length co60 : Value).ownBlock ∧ some k_ ≠ (.slice Ao61 t315.length co61 : Value).ownBlock ∧ some k_ ≠ (.slice Ao62 t316.length co62 : Value).ownBlock) (Kd.R_keptB (HO_265003.out) hkp (fun k_ hk_ hs_ => (hk_.2.1) hs_)) (fun k_ hk_ => ⟨hk_.1.1, hk_.1.2.1, hk_.1.2.2.1, hk_.1.2.2.2.1, hk_.1.2.2.2.2.1, hk_.1.2.2.2.2.2.1, hk_.1.2.2.2.2.2.2⟩)); replace HO_265004 := Aside0.mk (Kd.R_mono (ok' := fun k_ => some k_ ≠ (v249 : Value).ownBlock ∧ some k_ ≠ (.slice Ao122 t278.length co122 : Value).ownBlock ∧ some k_ ≠ (.slice Ao50 t310.length co50 : Value).ownBlock ∧ some k_ ≠ (.slice Ao52 t312.length co52 : Value).ownBlock ∧ some k_ ≠ (.slice Ao60 t314.length co60 : Value).ownBlock ∧ some k_ ≠ (.slice Ao61 t315.length co61 : Value).ownBlock ∧ some k_ ≠ (.slice Ao62 t316.length co62 : Value).ownBlock) (Kd.R_keptB (HO_265004.out) hkp (fun k_ hk_ hs_ => (hk_.2.1) hs_)) (fun k_ hk_ => ⟨hk_.1.1, hk_.1.2.1, hk_.1.2.2.1, hk_.1.2.2.2.1, hk_.1.2.2.2.2.1, hk_.1.2.2.2.2.2.1, hk_.1.2.2.2.2.2.2⟩)); replace HO_265005 := Aside0.mk (Kd.R_mono (ok' := fun k_ => some k_ ≠ (v249 : Value).ownBlock ∧ some k_ ≠ (.slice Ao122 t278.length co122 : Value).ownBlock ∧ some k_ ≠ (.slice Ao50 t310.length co50 : Value).ownBlock ∧ some k_ ≠ (.slice Ao51 t311.length co51 : Value).ownBlock ∧ some k_ ≠ (.slice Ao60 t314.length co60 : Value).ownBlock ∧ some k_ ≠ (.slice Ao61 t315.length co61 : Value).ownBlock ∧ some k_ ≠ (.slice Ao62 t316.length co62 : Value).ownBlock) (Kd.R_keptB (HO_265005.out) hkp (fun k_ hk_ hs_ => (hk_.2.1) hs_)) (fun k_ hk_ => ⟨hk_.1.1, hk_.1.2.1, hk_.1.2.2.1, hk_.1.2.2.2.1, hk_.1.2.2.2.2.1, hk_.1.2.2.2.2.2.1, hk_.1.2.2.2.2.2.2⟩)); replace HO_278003 := Aside0.mk (Kd.R_mono (ok' := fun k_ => some k_ ≠ (v249 : Value).ownBlock ∧ some k_ ≠ (.slice Ao122 t278.length co122 : Value).ownBlock ∧ some k_ ≠ (.slice Ao50 t310.length co50 : Value).ownBlock ∧ some k_ ≠ (.slice Ao51 t311.length co51 : Value).ownBlock ∧ some k_ ≠ (.slice Ao52 t312.length co52 : Value).ownBlock ∧ some k_ ≠ (.slice Ao61 t315.length co61 : Value).ownBlock ∧ some k_ ≠ (.slice Ao62 t316.length co62 : Value).ownBlock) (Kd.R_keptB (HO_278003.out) hkp (fun k_ hk_ hs_ => (hk_.2.1) hs_)) (fun k_ hk_ => ⟨hk_.1.1, hk_.1.2.1, hk_.1.2.2.1, hk_.1.2.2.2.1, hk_.1.2.2.2.2.1, hk_.1.2.2.2.2.2.1, hk_.1.2.2.2.2.2.2⟩)); replace HO_278004 := Aside0.mk (Kd.R_mono (ok' := fun k_ => some k_ ≠ (v249 : Value).ownBlock ∧ some k_ ≠ (.slice Ao122 t278.length co122 : Value).ownBlock ∧ some k_ ≠ (.slice Ao50 t310.length co50 : Value).ownBlock ∧ some k_ ≠ (.slice Ao51 t311.length co51 : Value).ownBlock ∧ some k_ ≠ (.slice Ao52 t312.length co52 : Value).ownBlock ∧ some k_ ≠ (.slice Ao60 t314.length co60 : Value).ownBlock ∧ some k_ ≠ (.slice Ao62 t316.length co62 : Value).ownBlock) (Kd.R_keptB (HO_278004.out) hkp (fun k_ hk_ hs_ => (hk_.2.1) hs_)) (fun k_ hk_ => ⟨hk_.1.1, hk_.1.2.1, hk_.1.2.2.1, hk_.1.2.2.2.1, hk_.1.2.2.2.2.1, hk_.1.2.2.2.2.2.1, hk_.1.2.2.2.2.2.2⟩)); replace HO_278005 := Aside0.mk (Kd.R_mono (ok' := fun k_ => some k_ ≠ (v249 : Value).ownBlock ∧ some k_ ≠ (.slice Ao122 t278.length co122 : Value).ownBlock ∧ some k_ ≠ (.slice Ao50 t310.length co50 : Value).ownBlock ∧ some k_ ≠ (.slice Ao51 t311.length co51 : Value).ownBlock ∧ some k_ ≠ (.slice Ao52 t312.length co52 : Value).ownBlock ∧ some k_ ≠ (.slice Ao60 t314.length co60 : Value).ownBlock ∧ some k_ ≠ (.slice Ao61 t315.length co61 : Value).ownBlock) (Kd.R_keptB (HO_278005.out) hkp (fun k_ hk_ hs_ => (hk_.2.1) hs_)) (fun k_ hk_ => ⟨hk_.1.1, hk_.1.2.1, hk_.1.2.2.1, hk_.1.2.2.2.1, hk_.1.2.2.2.2.1, hk_.1.2.2.2.2.2.1, hk_.1.2.2.2.2.2.2⟩)); replace BK220 := Aside0.mk (blk_kept (rBx7 BK220.out) hkp (fun hs_ => (fun e_ => (Kd.R_ne HO_12.out BK220.out (by decide)) e_) hs_)); replace BK221 := Aside0.mk (blk_kept (rBx7 BK221.out) hkp (fun hs_ => (fun e_ => (Kd.R_ne HO_12.out BK221.out (by decide)) e_) hs_)); replace BK264 := Aside0.mk (blk_kept (rBx7 BK264.out) hkp (fun hs_ => (fun e_ => (Kd.R_ne HO_12.out BK264.out (by decide)) e_) hs_)); replace BK277 := Aside0.mk (blk_kept (rBx7 BK277.out) hkp (fun hs_ => (fun e_ => (Kd.R_ne HO_12.out BK277.out (by decide)) e_) hs_)); replace HO_12 := Aside0.mk (Kd.R_reok rfl hy0 (fun k_ e_ => HO_12.out.1 k_ e_)); replace HB := Aside0.mk (hb); (try clear hb); (try clear hkp); (try clear hy0)) | ((with_reducible refine gate_callee (f := 31) rfl ?_); refine goesL_ (some 92) rfl rfl Try.func31 (by kernel_rfl) rfl #[.slice Ao122 t319.length co122, .int .i64 1] rfl (by (try simp only [List.map_toArray, List.map_cons, List.map_nil]); first | done | (rw [show t319.length = t278.length from (Kd.R_reads' HO_12.out).1.symm] <;> rfl) | rfl | (simp only [List.length_drop, List.length_take]; rfl)) ?_; (with_reducible refine (laws_heldIntS.calls kj93 _ _ t319 1 t320 _ ?side1 ?side2 A113.out).mono ?_); (case side1 => exact cRx7 HO_12.out); (case side2 => rw [show t319.length = t278.length from (Kd.R_reads' HO_12.out).1.symm]; exact (Kd.R_reads' HO_12.out).2.1); rintro e w' ⟨rfl, ⟨nd, rfl⟩⟩; refine ⟨_, rfl, ?_⟩))
               (try (rw [drewN_self w123]; generalize hq_ : World.drewN w123 _ = w123; have n0_ : Aside0 (Kd.R (Kd.int .i64) 3 w123 w.heap.size (fun k_ => some k_ ≠ (.slice Ao50 t310.length co50 : Value).ownBlock ∧ some k_ ≠ (.slice Ao51 t311.length co51 : Value).ownBlock ∧ some k_ ≠ (.slice Ao52 t312.length co52 : Value).ownBlock ∧ some k_ ≠ (.slice Ao60 t314.length co60 : Value).ownBlock ∧ some k_ ≠ (.slice Ao61 t315.length co61 : Value).ownBlock ∧ some k_ ≠ (.slice Ao62 t316.length co62 : Value).ownBlock ∧ some k_ ≠ (v249 : Value).ownBlock) (.slice Ao122 t278.length co122) t319) := ⟨by rw [← hq_]; exact (by exact rRx7 (mox7 HO_12.out))⟩; have n1_ : Aside0 (Kd.R (Kd.int .i64) 3 w123 w.heap.size (fun k_ => some k_ ≠ (.slice Ao122 t278.length co122 : Value).ownBlock ∧ some k_ ≠ (.slice Ao51 t311.length co51 : Value).ownBlock ∧ some k_ ≠ (.slice Ao52 t312.length co52 : Value).ownBlock ∧ some k_ ≠ (.slice Ao60 t314.length co60 : Value).ownBlock ∧ some k_ ≠ (.slice Ao61 t315.length co61 : Value).ownBlock ∧ some k_ ≠ (.slice Ao62 t316.length co62 : Value).ownBlock ∧ some k_ ≠ (v249 : Value).ownBlock) (.slice Ao50 t310.length co50) t310) := ⟨by rw [← hq_]; exact (by exact rRx7 (mox7 HO_265003.out))⟩; have n2_ : Aside0 (Kd.R (Kd.int .i64) 3 w123 w.heap.size (fun k_ => some k_ ≠ (.slice Ao122 t278.length co122 : Value).ownBlock ∧ some k_ ≠ (.slice Ao50 t310.length co50 : Value).ownBlock ∧ some k_ ≠ (.slice Ao52 t312.length co52 : Value).ownBlock ∧ some k_ ≠ (.slice Ao60 t314.length co60 : Value).ownBlock ∧ some k_ ≠ (.slice Ao61 t315.length co61 : Value).ownBlock ∧ some k_ ≠ (.slice Ao62 t316.length co62 : Value).ownBlock ∧ some k_ ≠ (v249 : Value).ownBlock) (.slice Ao51 t311.length co51) t311) := ⟨by rw [← hq_]; exact (by exact rRx7 (mox7 HO_265004.out))⟩; have n3_ : Aside0 (Kd.R (Kd.int .i64) 3 w123 w.heap.size (fun k_ => some k_ ≠ (.slice Ao122 t278.length co122 : Value).ownBlock ∧ some k_ ≠ (.slice Ao50 t310.length co50 : Value).ownBlock ∧ some k_ ≠ (.slice Ao51 t311.length co51 : Value).ownBlock ∧ some k_ ≠ (.slice Ao60 t314.length co60 : Value).ownBlock ∧ some k_ ≠ (.slice Ao61 t315.length co61 : Value).ownBlock ∧ some k_ ≠ (.slice Ao62 t316.length co62 : Value).ownBlock ∧ some k_ ≠ (v249 : Value).ownBlock) (.slice Ao52 t312.length co52) t312) := ⟨by rw [← hq_]; exact (by exact rRx7 (mox7 HO_265005.out))⟩; have n4_ : Aside0 (Kd.R (Kd.int .i64) 3 w123 w.heap.size (fun k_ => some k_ ≠ (.slice Ao122 t278.length co122 : Value).ownBlock ∧ some k_ ≠ (.slice Ao50 t310.length co50 : Value).ownBlock ∧ some k_ ≠ (.slice Ao51 t311.length co51 : Value).ownBlock ∧ some k_ ≠ (.slice Ao52 t312.length co52 : Value).ownBlock ∧ some k_ ≠ (.slice Ao61 t315.length co61 : Value).ownBlock ∧ some k_ ≠ (.slice Ao62 t316.length co62 : Value).ownBlock ∧ some k_ ≠ (v249 : Value).ownBlock) (.slice Ao60 t314.length co60) t314) := ⟨by rw [← hq_]; exact (by exact rRx7 (mox7 HO_278003.out))⟩; have n5_ : Aside0 (Kd.R (Kd.int .i64) 3 w123 w.heap.size (fun k_ => some k_ ≠ (.slice Ao122 t278.length co122 : Value).ownBlock ∧ some k_ ≠ (.slice Ao50 t310.length co50 : Value).ownBlock ∧ some k_ ≠ (.slice Ao51 t311.length co51 : Value).ownBlock ∧ some k_ ≠ (.slice Ao52 t312.length co52 : Value).ownBlock ∧ some k_ ≠ (.slice Ao60 t314.length co60 : Value).ownBlock ∧ some k_ ≠ (.slice Ao62 t316.length co62 : Value).ownBlock ∧ some k_ ≠ (v249 : Value).ownBlock) (.slice Ao61 t315.length co61) t315) := ⟨by rw [← hq_]; exact (by exact rRx7 (mox7 HO_278004.out))⟩; have n6_ : Aside0 (Kd.R (Kd.int .i64) 3 w123 w.heap.size (fun k_ => some k_ ≠ (.slice Ao122 t278.length co122 : Value).ownBlock ∧ some k_ ≠ (.slice Ao50 t310.length co50 : Value).ownBlock ∧ some k_ ≠ (.slice Ao51 t311.length co51 : Value).ownBlock ∧ some k_ ≠ (.slice Ao52 t312.length co52 : Value).ownBlock ∧ some k_ ≠ (.slice Ao60 t314.length co60 : Value).ownBlock ∧ some k_ ≠ (.slice Ao61 t315.length co61 : Value).ownBlock ∧ some k_ ≠ (v249 : Value).ownBlock) (.slice Ao62 t316.length co62) t316) := ⟨by rw [← hq_]; exact (by exact rRx7 (mox7 HO_278005.out))⟩; have n7_ : Aside0 (Kd.R (Kd.int .i64) 3 w123 w.heap.size (fun k_ => some k_ ≠ (.slice Ao122 t278.length co122 : Value).ownBlock ∧ some k_ ≠ (.slice Ao50 t310.length co50 : Value).ownBlock ∧ some k_ ≠ (.slice Ao51 t311.length co51 : Value).ownBlock ∧ some k_ ≠ (.slice Ao52 t312.length co52 : Value).ownBlock ∧ some k_ ≠ (.slice Ao60 t314.length co60 : Value).ownBlock ∧ some k_ ≠ (.slice Ao61 t315.length co61 : Value).ownBlock ∧ some k_ ≠ (.slice Ao62 t316.length co62 : Value).ownBlock) v249 t248) := ⟨by rw [← hq_]; exact (rRx7 HO_8.out)⟩; have n8_ : Aside0 (w123.heap[gb220]? = some (.cells #[.int .i64 a0_0, .int .i64 a0_1, .int .i64 a0_2, .slice A0_3 l0_3.length c0_3, .slice A0_4 l0_4.length c0_4, .slice A0_5 l0_5.length c0_5] 26 (0, 0))) := ⟨by rw [← hq_]; exact (rBx7 BK220.out)⟩; have n9_ : Aside0 (w123.heap[gb221]? = some (.cells #[.int .i64 a1_0, .int .i64 a1_1, .int .i64 a1_2, .slice A1_3 l1_3.length c1_3, .slice A1_4 l1_4.length c1_4, .slice A1_5 l1_5.length c1_5] 26 (0, 0))) := ⟨by rw [← hq_]; exact (rBx7 BK221.out)⟩; have n10_ : Aside0 (w123.heap[gb264]? = some (.cells #[.int .i64 t252, .int .i64 t253, .int .i64 t254, .slice Ao50 t310.length co50, .slice Ao51 t311.length co51, .slice Ao52 t312.length co52] 41 (0, 0))) := ⟨by rw [← hq_]; exact (rBx7 BK264.out)⟩; have n11_ : Aside0 (w123.heap[gb277]? = some (.cells #[.int .i64 t265, .int .i64 t266, .int .i64 t267, .slice Ao60 t314.length co60, .slice Ao61 t315.length co61, .slice Ao62 t316.length co62] 41 (0, 0))) := ⟨by rw [← hq_]; exact (rBx7 BK277.out)⟩; have n12_ : Aside0 (Below w.heap.size w w123) := ⟨by rw [← hq_]; exact (be4x7 HB.out GE220.out GE221.out GE264.out GE277.out)⟩; clear HO_12 HO_265003 HO_265004 HO_265005 HO_278003 HO_278004 HO_278005 HO_8 BK220 BK221 BK264 BK277 HB hq_; have HO_12 := n0_; have HO_265003 := n1_; have HO_265004 := n2_; have HO_265005 := n3_; have HO_278003 := n4_; have HO_278004 := n5_; have HO_278005 := n6_; have HO_8 := n7_; have BK220 := n8_; have BK221 := n9_; have BK264 := n10_; have BK277 := n11_; have HB := n12_; clear n0_ n1_ n2_ n3_ n4_ n5_ n6_ n7_ n8_ n9_ n10_ n11_ n12_))
               have n0_ := Aside0.mk (Kd.R_drew HO_8.out)
               have n1_ := Aside0.mk (Kd.R_drew HO_12.out)
               have n2_ := Aside0.mk (Kd.R_drew HO_265003.out)
               have n3_ := Aside0.mk (Kd.R_drew HO_265004.out)
               have n4_ := Aside0.mk (Kd.R_drew HO_265005.out)
               have n5_ := Aside0.mk (Kd.R_drew HO_278003.out)
               have n6_ := Aside0.mk (Kd.R_drew HO_278004.out)
               have n7_ := Aside0.mk (Kd.R_drew HO_278005.out)
               have n8_ := Aside0.mk (blk_drew BK220.out)
               have n9_ := Aside0.mk (blk_drew BK221.out)
               have n10_ := Aside0.mk (blk_drew BK264.out)
               have n11_ := Aside0.mk (blk_drew BK277.out)
               have n12_ := Aside0.mk (below_drew1 HB.out)
               clear HO_8
               clear HO_12
               clear HO_265003
               clear HO_265004
               clear HO_265005
               clear HO_278003
               clear HO_278004
               clear HO_278005
               clear BK220
               clear BK221
               clear BK264
               clear BK277
               clear HB
               have HO_8 := n0_
               have HO_12 := n1_
               have HO_265003 := n2_
               have HO_265004 := n3_
               have HO_265005 := n4_
               have HO_278003 := n5_
               have HO_278004 := n6_
               have HO_278005 := n7_
               have BK220 := n8_
               have BK221 := n9_
               have BK264 := n10_
               have BK277 := n11_
               have HB := n12_
               clear n0_ n1_ n2_ n3_ n4_ n5_ n6_ n7_ n8_ n9_ n10_ n11_ n12_
               refine start_ (n := 11) (S := fun w' => w'.cell? ⟨gb220, 0, none⟩ = some (.int .i64 a0_0) ∧ w'.cell? ⟨gb220, 1, none⟩ = some (.int .i64 a0_1) ∧ w'.cell? ⟨gb220, 2, none⟩ = some (.int .i64 a0_2) ∧ w'.cell? ⟨gb220, 3, none⟩ = some (.slice A0_3 l0_3.length c0_3) ∧ w'.cell? ⟨gb220, 4, none⟩ = some (.slice A0_4 l0_4.length c0_4) ∧ w'.cell? ⟨gb220, 5, none⟩ = some (.slice A0_5 l0_5.length c0_5) ∧ w'.cell? ⟨gb221, 0, none⟩ = some (.int .i64 a1_0) ∧ w'.cell? ⟨gb221, 1, none⟩ = some (.int .i64 a1_1) ∧ w'.cell? ⟨gb221, 2, none⟩ = some (.int .i64 a1_2) ∧ w'.cell? ⟨gb221, 3, none⟩ = some (.slice A1_3 l1_3.length c1_3) ∧ w'.cell? ⟨gb221, 4, none⟩ = some (.slice A1_4 l1_4.length c1_4) ∧ w'.cell? ⟨gb221, 5, none⟩ = some (.slice A1_5 l1_5.length c1_5)) (ds := []) #[false, false, false, false, false, false, false, false, false, false, false] (by kernel_rfl) rfl rfl (ca6x7 BK220.out (cc6x7 BK221.out)) (fun hHeld => ?_); refine with_tabW laws_FnExactSortTable.tab31 laws_FnExactSortTable.bits31 (fun HT_ HW_ => ?_)
               generalize w123.drew = w124 at HO_8 HO_12 HO_265003 HO_265004 HO_265005 HO_278003 HO_278004 HO_278005 BK220 BK221 BK264 BK277 HB hHeld ⊢
               refine pure_ (i := 4) (N := some 103) (v := ?_) (a' := ?_) #[false, false, false, false, true, false, false, false, false, false, false] rfl rfl (any_of HT_.out (by kernel_rfl)) (fun _ _ _ h => h) (Or.inl ⟨by rfl, ?_⟩) ?_ ?_
               rotate_left
               ·intro w'
                go_simp
                with_reducible rfl
               rotate_left
               ·simp only [Act.put, List.setIfInBounds_toArray, List.set_cons_zero, List.set_cons_succ, i64_w, i32_w]
                rfl
               refine take_ (i := 0) (N := some 99) (v := ?_) (a' := ?_) #[true, false, false, false, true, false, false, false, false, false, false] rfl rfl (take_ofW HT_.out HW_.out (by kernel_rfl)) (fun _ _ _ h => h) (Or.inl ⟨by rfl, ?_⟩) hHeld ?_ ?_
               rotate_left
               ·rintro w' ⟨s0, s1, s2, s3, s4, s5, s6, s7, s8, s9, s10, s11⟩
                go_simp
                with_reducible rfl
               rotate_left
               ·simp only [Act.put, List.setIfInBounds_toArray, List.set_cons_zero, List.set_cons_succ, i64_w, i32_w]
                rfl
               refine take_ (i := 2) (N := some 101) (v := ?_) (a' := ?_) #[true, false, true, false, true, false, false, false, false, false, false] rfl rfl (take_ofW HT_.out HW_.out (by kernel_rfl)) (fun _ _ _ h => h) (Or.inl ⟨by rfl, ?_⟩) hHeld ?_ ?_
               rotate_left
               ·rintro w' ⟨s0, s1, s2, s3, s4, s5, s6, s7, s8, s9, s10, s11⟩
                go_simp
                with_reducible rfl
               rotate_left
               ·simp only [Act.put, List.setIfInBounds_toArray, List.set_cons_zero, List.set_cons_succ, i64_w, i32_w]
                rfl
               refine one_ (i := 1) (N := some 100) #[true, true, true, false, true, false, false, false, false, false, false] rfl rfl (one_of HT_.out (by kernel_rfl)) (by decide) (fun K hK => ?_)
               refine goes_ Try.func19 (by kernel_rfl) rfl #[.agg #[.int .i64 a0_0, .int .i64 a0_1, .int .i64 a0_2, .slice A0_3 l0_3.length c0_3, .slice A0_4 l0_4.length c0_4, .slice A0_5 l0_5.length c0_5]] (by rfl) rfl rfl mpx7 ?_
               with_reducible refine (laws_toModel.calls kj93 a0_0 a0_1 a0_2 _ _ l0_3 _ _ l0_4 _ _ l0_5 t321 t322 t323 t324 t327 t330 _ ?side1 ?side2 ?side3 ?side4 ?side5 ?side6 A118.out).mono ?_
               (case side1 => exact rCx7 (Kd.C_below HR0_3.out HB.out))
               (case side2 => exact HC0_3.out)
               (case side3 => exact rCx7 (Kd.C_below HR0_4.out HB.out))
               (case side4 => exact HC0_4.out)
               (case side5 => exact rCx7 (Kd.C_below HR0_5.out HB.out))
               (case side6 => exact HC0_5.out)
               rintro e w125 ⟨v325, v328, v331, rfl, ho0, ho1, ho2, hb⟩
               refine ⟨_, rfl, ?_⟩
               have n0_ := Aside0.mk (kp3x7 (rRx7 HO_8.out) hb ho0 ho1 ho2)
               have n1_ := Aside0.mk (kp3x7 (rRx7 HO_12.out) hb ho0 ho1 ho2)
               have n2_ := Aside0.mk (kp3x7 (rRx7 HO_265003.out) hb ho0 ho1 ho2)
               have n3_ := Aside0.mk (kp3x7 (rRx7 HO_265004.out) hb ho0 ho1 ho2)
               have n4_ := Aside0.mk (kp3x7 (rRx7 HO_265005.out) hb ho0 ho1 ho2)
               have n5_ := Aside0.mk (kp3x7 (rRx7 HO_278003.out) hb ho0 ho1 ho2)
               have n6_ := Aside0.mk (kp3x7 (rRx7 HO_278004.out) hb ho0 ho1 ho2)
               have n7_ := Aside0.mk (kp3x7 (rRx7 HO_278005.out) hb ho0 ho1 ho2)
               have n8_ := Aside0.mk (Kd.R_lower (nwx7 (nwx7 (nwx7 (nwx7 (nwx7 (nwx7 (nwx7 (nwx7 ho0 (rRx7 HO_8.out)) (rRx7 HO_12.out)) (rRx7 HO_265003.out)) (rRx7 HO_265004.out)) (rRx7 HO_265005.out)) (rRx7 HO_278003.out)) (rRx7 HO_278004.out)) (rRx7 HO_278005.out)) (below_size (be4x7 HB.out GE220.out GE221.out GE264.out GE277.out)))
               have n9_ := Aside0.mk (Kd.R_lower (nwx7 (nwx7 (nwx7 (nwx7 (nwx7 (nwx7 (nwx7 (nwx7 ho1 (rRx7 HO_8.out)) (rRx7 HO_12.out)) (rRx7 HO_265003.out)) (rRx7 HO_265004.out)) (rRx7 HO_265005.out)) (rRx7 HO_278003.out)) (rRx7 HO_278004.out)) (rRx7 HO_278005.out)) (below_size (be4x7 HB.out GE220.out GE221.out GE264.out GE277.out)))
               have n10_ := Aside0.mk (Kd.R_lower (nwx7 (nwx7 (nwx7 (nwx7 (nwx7 (nwx7 (nwx7 (nwx7 ho2 (rRx7 HO_8.out)) (rRx7 HO_12.out)) (rRx7 HO_265003.out)) (rRx7 HO_265004.out)) (rRx7 HO_265005.out)) (rRx7 HO_278003.out)) (rRx7 HO_278004.out)) (rRx7 HO_278005.out)) (below_size (be4x7 HB.out GE220.out GE221.out GE264.out GE277.out)))
               have n11_ := Aside0.mk (blk_below (g := gb220) (o := .cells #[.int .i64 a0_0, .int .i64 a0_1, .int .i64 a0_2, .slice A0_3 l0_3.length c0_3, .slice A0_4 l0_4.length c0_4, .slice A0_5 l0_5.length c0_5] 26 (0, 0)) (rBx7 BK220.out) hb)
               have n12_ := Aside0.mk (blk_below (g := gb221) (o := .cells #[.int .i64 a1_0, .int .i64 a1_1, .int .i64 a1_2, .slice A1_3 l1_3.length c1_3, .slice A1_4 l1_4.length c1_4, .slice A1_5 l1_5.length c1_5] 26 (0, 0)) (rBx7 BK221.out) hb)
               have n13_ := Aside0.mk (blk_below (g := gb264) (o := .cells #[.int .i64 t252, .int .i64 t253, .int .i64 t254, .slice Ao50 t310.length co50, .slice Ao51 t311.length co51, .slice Ao52 t312.length co52] 41 (0, 0)) (rBx7 BK264.out) hb)
               have n14_ := Aside0.mk (blk_below (g := gb277) (o := .cells #[.int .i64 t265, .int .i64 t266, .int .i64 t267, .slice Ao60 t314.length co60, .slice Ao61 t315.length co61, .slice Ao62 t316.length co62] 41 (0, 0)) (rBx7 BK277.out) hb)
               have n15_ := Aside0.mk (below_step (be4x7 HB.out GE220.out GE221.out GE264.out GE277.out) hb)
               clear HO_8
               clear HO_12
               clear HO_265003
               clear HO_265004
               clear HO_265005
               clear HO_278003
               clear HO_278004
               clear HO_278005
               clear BK220
               clear BK221
               clear BK264
               clear BK277
               clear HB
               have HO_8 := n0_
               have HO_12 := n1_
               have HO_265003 := n2_
               have HO_265004 := n3_
               have HO_265005 := n4_
               have HO_278003 := n5_
               have HO_278004 := n6_
               have HO_278005 := n7_
               have HO326 := n8_
               have HO329 := n9_
               have HO332 := n10_
               have BK220 := n11_
               have BK221 := n12_
               have BK264 := n13_
               have BK277 := n14_
               have HB := n15_
               clear n0_ n1_ n2_ n3_ n4_ n5_ n6_ n7_ n8_ n9_ n10_ n11_ n12_ n13_ n14_ n15_
               (try clear hb)
               (try clear hb2)
               (try clear hk)
               (try clear hi)
               (try clear ho0)
               (try clear ho1)
               (try clear ho2)
               refine hK.out _ _ (ca6x7 BK220.out (cc6x7 BK221.out)) (fun hHeld => ?_)
               clear hK K
               refine norm_ (a' := ?_) ?_ ?_
               rotate_left
               ·show Act.put _ (some 100) _ = _
                simp only [Act.put, List.setIfInBounds_toArray, List.set_cons_zero, List.set_cons_succ, i64_w, i32_w]
                rfl
               refine one_ (i := 3) (N := some 102) #[true, true, true, true, true, false, false, false, false, false, false] rfl rfl (one_of HT_.out (by kernel_rfl)) (by decide) (fun K hK => ?_)
               refine goes_ Try.func19 (by kernel_rfl) rfl #[.agg #[.int .i64 a1_0, .int .i64 a1_1, .int .i64 a1_2, .slice A1_3 l1_3.length c1_3, .slice A1_4 l1_4.length c1_4, .slice A1_5 l1_5.length c1_5]] (by rfl) rfl rfl mpx7 ?_
               with_reducible refine (laws_toModel.calls kj93 a1_0 a1_1 a1_2 _ _ l1_3 _ _ l1_4 _ _ l1_5 t333 t334 t335 t336 t339 t342 _ ?side1 ?side2 ?side3 ?side4 ?side5 ?side6 A119.out).mono ?_
               (case side1 => exact rCx7 (Kd.C_below HR1_3.out HB.out))
               (case side2 => exact HC1_3.out)
               (case side3 => exact rCx7 (Kd.C_below HR1_4.out HB.out))
               (case side4 => exact HC1_4.out)
               (case side5 => exact rCx7 (Kd.C_below HR1_5.out HB.out))
               (case side6 => exact HC1_5.out)
               rintro e w126 ⟨v337, v340, v343, rfl, ho0, ho1, ho2, hb⟩
               refine ⟨_, rfl, ?_⟩
               have n0_ := Aside0.mk (kp3x7 (rRx7 HO_8.out) hb ho0 ho1 ho2)
               have n1_ := Aside0.mk (kp3x7 (rRx7 HO_12.out) hb ho0 ho1 ho2)
               have n2_ := Aside0.mk (kp3x7 (rRx7 HO_265003.out) hb ho0 ho1 ho2)
               have n3_ := Aside0.mk (kp3x7 (rRx7 HO_265004.out) hb ho0 ho1 ho2)
               have n4_ := Aside0.mk (kp3x7 (rRx7 HO_265005.out) hb ho0 ho1 ho2)
               have n5_ := Aside0.mk (kp3x7 (rRx7 HO_278003.out) hb ho0 ho1 ho2)
               have n6_ := Aside0.mk (kp3x7 (rRx7 HO_278004.out) hb ho0 ho1 ho2)
               have n7_ := Aside0.mk (kp3x7 (rRx7 HO_278005.out) hb ho0 ho1 ho2)
               have n8_ := Aside0.mk (kp3x7 (rRx7 HO326.out) hb ho0 ho1 ho2)
               have n9_ := Aside0.mk (kp3x7 (rRx7 HO329.out) hb ho0 ho1 ho2)
               have n10_ := Aside0.mk (kp3x7 (rRx7 HO332.out) hb ho0 ho1 ho2)
               have n11_ := Aside0.mk (Kd.R_lower (nwx7 (nwx7 (nwx7 (nwx7 (nwx7 (nwx7 (nwx7 (nwx7 (nwx7 (nwx7 (nwx7 ho0 (rRx7 HO_8.out)) (rRx7 HO_12.out)) (rRx7 HO_265003.out)) (rRx7 HO_265004.out)) (rRx7 HO_265005.out)) (rRx7 HO_278003.out)) (rRx7 HO_278004.out)) (rRx7 HO_278005.out)) (rRx7 HO326.out)) (rRx7 HO329.out)) (rRx7 HO332.out)) (below_size (be4x7 HB.out GE220.out GE221.out GE264.out GE277.out)))
               have n12_ := Aside0.mk (Kd.R_lower (nwx7 (nwx7 (nwx7 (nwx7 (nwx7 (nwx7 (nwx7 (nwx7 (nwx7 (nwx7 (nwx7 ho1 (rRx7 HO_8.out)) (rRx7 HO_12.out)) (rRx7 HO_265003.out)) (rRx7 HO_265004.out)) (rRx7 HO_265005.out)) (rRx7 HO_278003.out)) (rRx7 HO_278004.out)) (rRx7 HO_278005.out)) (rRx7 HO326.out)) (rRx7 HO329.out)) (rRx7 HO332.out)) (below_size (be4x7 HB.out GE220.out GE221.out GE264.out GE277.out)))
               have n13_ := Aside0.mk (Kd.R_lower (nwx7 (nwx7 (nwx7 (nwx7 (nwx7 (nwx7 (nwx7 (nwx7 (nwx7 (nwx7 (nwx7 ho2 (rRx7 HO_8.out)) (rRx7 HO_12.out)) (rRx7 HO_265003.out)) (rRx7 HO_265004.out)) (rRx7 HO_265005.out)) (rRx7 HO_278003.out)) (rRx7 HO_278004.out)) (rRx7 HO_278005.out)) (rRx7 HO326.out)) (rRx7 HO329.out)) (rRx7 HO332.out)) (below_size (be4x7 HB.out GE220.out GE221.out GE264.out GE277.out)))
               have n14_ := Aside0.mk (blk_below (g := gb220) (o := .cells #[.int .i64 a0_0, .int .i64 a0_1, .int .i64 a0_2, .slice A0_3 l0_3.length c0_3, .slice A0_4 l0_4.length c0_4, .slice A0_5 l0_5.length c0_5] 26 (0, 0)) (rBx7 BK220.out) hb)
               have n15_ := Aside0.mk (blk_below (g := gb221) (o := .cells #[.int .i64 a1_0, .int .i64 a1_1, .int .i64 a1_2, .slice A1_3 l1_3.length c1_3, .slice A1_4 l1_4.length c1_4, .slice A1_5 l1_5.length c1_5] 26 (0, 0)) (rBx7 BK221.out) hb)
               have n16_ := Aside0.mk (blk_below (g := gb264) (o := .cells #[.int .i64 t252, .int .i64 t253, .int .i64 t254, .slice Ao50 t310.length co50, .slice Ao51 t311.length co51, .slice Ao52 t312.length co52] 41 (0, 0)) (rBx7 BK264.out) hb)
               have n17_ := Aside0.mk (blk_below (g := gb277) (o := .cells #[.int .i64 t265, .int .i64 t266, .int .i64 t267, .slice Ao60 t314.length co60, .slice Ao61 t315.length co61, .slice Ao62 t316.length co62] 41 (0, 0)) (rBx7 BK277.out) hb)
               have n18_ := Aside0.mk (below_step (be4x7 HB.out GE220.out GE221.out GE264.out GE277.out) hb)
               clear HO_8
               clear HO_12
               clear HO_265003
               clear HO_265004
               clear HO_265005
               clear HO_278003
               clear HO_278004
               clear HO_278005
               clear HO326
               clear HO329
               clear HO332
               clear BK220
               clear BK221
               clear BK264
               clear BK277
               clear HB
               have HO_8 := n0_
               have HO_12 := n1_
               have HO_265003 := n2_
               have HO_265004 := n3_
               have HO_265005 := n4_
               have HO_278003 := n5_
               have HO_278004 := n6_
               have HO_278005 := n7_
               have HO326 := n8_
               have HO329 := n9_
               have HO332 := n10_
               have HO338 := n11_
               have HO341 := n12_
               have HO344 := n13_
               have BK220 := n14_
               have BK221 := n15_
               have BK264 := n16_
               have BK277 := n17_
               have HB := n18_
               clear n0_ n1_ n2_ n3_ n4_ n5_ n6_ n7_ n8_ n9_ n10_ n11_ n12_ n13_ n14_ n15_ n16_ n17_ n18_
               (try clear hb)
               (try clear hb2)
               (try clear hk)
               (try clear hi)
               (try clear ho0)
               (try clear ho1)
               (try clear ho2)
               obtain ⟨Ao127, co127, eo127⟩ := Kd.R_slice HO326.out
               (first | subst eo127 | (injection eo127 with f1_ f2_ f3_; have f4_ := f1_.symm; have f5_ := f3_.symm; clear f1_ f2_ f3_; subst f4_; subst f5_))
               obtain ⟨Ao128, co128, eo128⟩ := Kd.R_slice HO329.out
               (first | subst eo128 | (injection eo128 with f1_ f2_ f3_; have f4_ := f1_.symm; have f5_ := f3_.symm; clear f1_ f2_ f3_; subst f4_; subst f5_))
               obtain ⟨Ao129, co129, eo129⟩ := Kd.R_slice HO332.out
               (first | subst eo129 | (injection eo129 with f1_ f2_ f3_; have f4_ := f1_.symm; have f5_ := f3_.symm; clear f1_ f2_ f3_; subst f4_; subst f5_))
               obtain ⟨Ao130, co130, eo130⟩ := Kd.R_slice HO338.out
               (first | subst eo130 | (injection eo130 with f1_ f2_ f3_; have f4_ := f1_.symm; have f5_ := f3_.symm; clear f1_ f2_ f3_; subst f4_; subst f5_))
               obtain ⟨Ao131, co131, eo131⟩ := Kd.R_slice HO341.out
               (first | subst eo131 | (injection eo131 with f1_ f2_ f3_; have f4_ := f1_.symm; have f5_ := f3_.symm; clear f1_ f2_ f3_; subst f4_; subst f5_))
               obtain ⟨Ao132, co132, eo132⟩ := Kd.R_slice HO344.out
               (first | subst eo132 | (injection eo132 with f1_ f2_ f3_; have f4_ := f1_.symm; have f5_ := f3_.symm; clear f1_ f2_ f3_; subst f4_; subst f5_))
               refine hK.out _ _ (ca6x7 BK220.out (cc6x7 BK221.out)) (fun hHeld => ?_)
               clear hK K
               refine norm_ (a' := ?_) ?_ ?_
               rotate_left
               ·show Act.put _ (some 102) _ = _
                simp only [Act.put, List.setIfInBounds_toArray, List.set_cons_zero, List.set_cons_succ, i64_w, i32_w]
                rfl
               refine one_ (i := 5) (N := some 104) #[true, true, true, true, true, true, false, false, false, false, false] rfl rfl (one_of HT_.out (by kernel_rfl)) (by decide) (fun K hK => ?_)
               refine goes_ Try.func39 (by kernel_rfl) rfl #[.agg #[.int .i64 t321, .int .i64 t322, .int .i64 t323, .slice Ao127 t324.length co127, .slice Ao128 t327.length co128, .slice Ao129 t330.length co129], .agg #[.int .i64 t333, .int .i64 t334, .int .i64 t335, .slice Ao130 t336.length co130, .slice Ao131 t339.length co131, .slice Ao132 t342.length co132], .int .i64 a2] (by rfl) rfl rfl mpx7 ?_
               with_reducible refine (impl_SortTable.calls kj93 t321 t322 t323 _ _ t324 _ _ t327 _ _ t330 t333 t334 t335 _ _ t336 _ _ t339 _ _ t342 a2 t345 t348 _ ?side1 ?side2 ?side3 ?side4 ?side5 ?side6 ?side7 ?side8 ?side9 ?side10 ?side11 ?side12 A120.out).mono ?_
               (case side1 => exact cRx7 HO326.out)
               (case side2 => exact (Kd.R_reads' HO326.out).2.1)
               (case side3 => exact cRx7 HO329.out)
               (case side4 => exact (Kd.R_reads' HO329.out).2.1)
               (case side5 => exact cRx7 HO332.out)
               (case side6 => exact (Kd.R_reads' HO332.out).2.1)
               (case side7 => exact cRx7 HO338.out)
               (case side8 => exact (Kd.R_reads' HO338.out).2.1)
               (case side9 => exact cRx7 HO341.out)
               (case side10 => exact (Kd.R_reads' HO341.out).2.1)
               (case side11 => exact cRx7 HO344.out)
               (case side12 => exact (Kd.R_reads' HO344.out).2.1)
               rintro e w133 ⟨v346, rfl, ho0, hb⟩
               refine ⟨_, rfl, ?_⟩
               have n0_ := Aside0.mk (Kd.R_elder' (rRx7 HO_8.out) (Kd.R_base ho0) hb)
               have n1_ := Aside0.mk (Kd.R_elder' (rRx7 HO_12.out) (Kd.R_base ho0) hb)
               have n2_ := Aside0.mk (Kd.R_elder' (rRx7 HO_265003.out) (Kd.R_base ho0) hb)
               have n3_ := Aside0.mk (Kd.R_elder' (rRx7 HO_265004.out) (Kd.R_base ho0) hb)
               have n4_ := Aside0.mk (Kd.R_elder' (rRx7 HO_265005.out) (Kd.R_base ho0) hb)
               have n5_ := Aside0.mk (Kd.R_elder' (rRx7 HO_278003.out) (Kd.R_base ho0) hb)
               have n6_ := Aside0.mk (Kd.R_elder' (rRx7 HO_278004.out) (Kd.R_base ho0) hb)
               have n7_ := Aside0.mk (Kd.R_elder' (rRx7 HO_278005.out) (Kd.R_base ho0) hb)
               have n8_ := Aside0.mk (Kd.R_elder' (rRx7 HO326.out) (Kd.R_base ho0) hb)
               have n9_ := Aside0.mk (Kd.R_elder' (rRx7 HO329.out) (Kd.R_base ho0) hb)
               have n10_ := Aside0.mk (Kd.R_elder' (rRx7 HO332.out) (Kd.R_base ho0) hb)
               have n11_ := Aside0.mk (Kd.R_elder' (rRx7 HO338.out) (Kd.R_base ho0) hb)
               have n12_ := Aside0.mk (Kd.R_elder' (rRx7 HO341.out) (Kd.R_base ho0) hb)
               have n13_ := Aside0.mk (Kd.R_elder' (rRx7 HO344.out) (Kd.R_base ho0) hb)
               have n14_ := Aside0.mk (Kd.R_lower (nwx7 (nwx7 (nwx7 (nwx7 (nwx7 (nwx7 (nwx7 (nwx7 (nwx7 (nwx7 (nwx7 (nwx7 (nwx7 (nwx7 ho0 (rRx7 HO_8.out)) (rRx7 HO_12.out)) (rRx7 HO_265003.out)) (rRx7 HO_265004.out)) (rRx7 HO_265005.out)) (rRx7 HO_278003.out)) (rRx7 HO_278004.out)) (rRx7 HO_278005.out)) (rRx7 HO326.out)) (rRx7 HO329.out)) (rRx7 HO332.out)) (rRx7 HO338.out)) (rRx7 HO341.out)) (rRx7 HO344.out)) (below_size (be4x7 HB.out GE220.out GE221.out GE264.out GE277.out)))
               have n15_ := Aside0.mk (blk_below (g := gb220) (o := .cells #[.int .i64 a0_0, .int .i64 a0_1, .int .i64 a0_2, .slice A0_3 l0_3.length c0_3, .slice A0_4 l0_4.length c0_4, .slice A0_5 l0_5.length c0_5] 26 (0, 0)) (rBx7 BK220.out) hb)
               have n16_ := Aside0.mk (blk_below (g := gb221) (o := .cells #[.int .i64 a1_0, .int .i64 a1_1, .int .i64 a1_2, .slice A1_3 l1_3.length c1_3, .slice A1_4 l1_4.length c1_4, .slice A1_5 l1_5.length c1_5] 26 (0, 0)) (rBx7 BK221.out) hb)
               have n17_ := Aside0.mk (blk_below (g := gb264) (o := .cells #[.int .i64 t252, .int .i64 t253, .int .i64 t254, .slice Ao50 t310.length co50, .slice Ao51 t311.length co51, .slice Ao52 t312.length co52] 41 (0, 0)) (rBx7 BK264.out) hb)
               have n18_ := Aside0.mk (blk_below (g := gb277) (o := .cells #[.int .i64 t265, .int .i64 t266, .int .i64 t267, .slice Ao60 t314.length co60, .slice Ao61 t315.length co61, .slice Ao62 t316.length co62] 41 (0, 0)) (rBx7 BK277.out) hb)
               have n19_ := Aside0.mk (below_step (be4x7 HB.out GE220.out GE221.out GE264.out GE277.out) hb)
               clear HO_8
               clear HO_12
               clear HO_265003
               clear HO_265004
               clear HO_265005
               clear HO_278003
               clear HO_278004
               clear HO_278005
               clear HO326
               clear HO329
               clear HO332
               clear HO338
               clear HO341
               clear HO344
               clear BK220
               clear BK221
               clear BK264
               clear BK277
               clear HB
               have HO_8 := n0_
               have HO_12 := n1_
               have HO_265003 := n2_
               have HO_265004 := n3_
               have HO_265005 := n4_
               have HO_278003 := n5_
               have HO_278004 := n6_
               have HO_278005 := n7_
               have HO326 := n8_
               have HO329 := n9_
               have HO332 := n10_
               have HO338 := n11_
               have HO341 := n12_
               have HO344 := n13_
               have HO347 := n14_
               have BK220 := n15_
               have BK221 := n16_
               have BK264 := n17_
               have BK277 := n18_
               have HB := n19_
               clear n0_ n1_ n2_ n3_ n4_ n5_ n6_ n7_ n8_ n9_ n10_ n11_ n12_ n13_ n14_ n15_ n16_ n17_ n18_ n19_
               (try clear hb)
               (try clear hb2)
               (try clear hk)
               (try clear hi)
               (try clear ho0)
               refine hK.out _ _ (ca6x7 BK220.out (cc6x7 BK221.out)) (fun hHeld => ?_)
               clear hK K
               refine norm_ (a' := ?_) ?_ ?_
               rotate_left
               ·show Act.put _ (some 104) _ = _
                simp only [Act.put, List.setIfInBounds_toArray, List.set_cons_zero, List.set_cons_succ, i64_w, i32_w]
                rfl
               refine pure_ (i := 6) (N := some 98) (v := ?_) (a' := ?_) #[true, true, true, true, true, true, true, false, false, false, false] rfl rfl (any_of HT_.out (by kernel_rfl)) (fun _ _ _ h => h) (Or.inl ⟨by rfl, ?_⟩) ?_ ?_
               rotate_left
               ·intro w'
                go_simp
                with_reducible rfl
               rotate_left
               ·simp only [Act.put, List.setIfInBounds_toArray, List.set_cons_zero, List.set_cons_succ, i64_w, i32_w]
                rfl
               refine pure_ (i := 7) (N := some 105) (v := ?_) (a' := ?_) #[true, true, true, true, true, true, true, true, false, false, false] rfl rfl (any_of HT_.out (by kernel_rfl)) (fun _ _ _ h => h) (Or.inl ⟨by rfl, ?_⟩) ?_ ?_
               rotate_left
               ·intro w'
                go_simp
                with_reducible rfl
               rotate_left
               ·simp only [Act.put, List.setIfInBounds_toArray, List.set_cons_zero, List.set_cons_succ, i64_w, i32_w]
                rfl
               refine pure_ (i := 8) (N := some 106) (v := ?_) (a' := ?_) #[true, true, true, true, true, true, true, true, true, false, false] rfl rfl (any_of HT_.out (by kernel_rfl)) (fun _ _ _ h => h) (Or.inl ⟨by rfl, ?_⟩) ?_ ?_
               rotate_left
               ·intro w'
                go_simp
                with_reducible rfl
               rotate_left
               ·simp only [Act.put, List.setIfInBounds_toArray, List.set_cons_zero, List.set_cons_succ, i64_w, i32_w]
                rfl
               refine pure_ (i := 9) (N := some 17) (v := ?_) (a' := ?_) #[true, true, true, true, true, true, true, true, true, true, false] rfl rfl (any_of HT_.out (by kernel_rfl)) (fun _ _ _ h => h) (Or.inl ⟨by rfl, ?_⟩) ?_ ?_
               rotate_left
               ·intro w'
                go_simp
                with_reducible rfl
               rotate_left
               ·simp only [Act.put, List.setIfInBounds_toArray, List.set_cons_zero, List.set_cons_succ, i64_w, i32_w]
                rfl
               refine pure_ (i := 10) (N := some 18) (v := ?_) (a' := ?_) #[true, true, true, true, true, true, true, true, true, true, true] rfl rfl (any_of HT_.out (by kernel_rfl)) (fun _ _ _ h => h) (Or.inl ⟨by rfl, ?_⟩) ?_ ?_
               rotate_left
               ·intro w'
                go_simp
                with_reducible rfl
               rotate_left
               ·simp only [Act.put, List.setIfInBounds_toArray, List.set_cons_zero, List.set_cons_succ, i64_w, i32_w]
                rfl
               refine done_ (done_of HT_.out (by kernel_rfl)) ?_
               go_upto_region 32 with (fail)
               go_cut [115] (fun v115 wc => ∃ (kq : Nat) (x115_120 : Bool), v115 = .bool x115_120 ∧ Aside0 (laws_FnExactSortTable.j4 kq t319 t318 x115_120 = some r) ∧ Aside0 (kq ≤ kj93) ∧ Aside0 (Kd.R (Kd.int .i64) 3 wc w.heap.size (fun k_ => some k_ ≠ ((.slice Ao50 t310.length co50) : Value).ownBlock ∧ some k_ ≠ ((.slice Ao51 t311.length co51) : Value).ownBlock ∧ some k_ ≠ ((.slice Ao52 t312.length co52) : Value).ownBlock ∧ some k_ ≠ ((.slice Ao60 t314.length co60) : Value).ownBlock ∧ some k_ ≠ ((.slice Ao61 t315.length co61) : Value).ownBlock ∧ some k_ ≠ ((.slice Ao62 t316.length co62) : Value).ownBlock) (.slice Ao122 t278.length co122) t319) ∧ Aside0 (Kd.R (Kd.int .i64) 3 wc w.heap.size (fun k_ => some k_ ≠ ((.slice Ao122 t278.length co122) : Value).ownBlock ∧ some k_ ≠ ((.slice Ao51 t311.length co51) : Value).ownBlock ∧ some k_ ≠ ((.slice Ao52 t312.length co52) : Value).ownBlock ∧ some k_ ≠ ((.slice Ao60 t314.length co60) : Value).ownBlock ∧ some k_ ≠ ((.slice Ao61 t315.length co61) : Value).ownBlock ∧ some k_ ≠ ((.slice Ao62 t316.length co62) : Value).ownBlock) (.slice Ao50 t310.length co50) t310) ∧ Aside0 (Kd.R (Kd.int .i64) 3 wc w.heap.size (fun k_ => some k_ ≠ ((.slice Ao122 t278.length co122) : Value).ownBlock ∧ some k_ ≠ ((.slice Ao50 t310.length co50) : Value).ownBlock ∧ some k_ ≠ ((.slice Ao52 t312.length co52) : Value).ownBlock ∧ some k_ ≠ ((.slice Ao60 t314.length co60) : Value).ownBlock ∧ some k_ ≠ ((.slice Ao61 t315.length co61) : Value).ownBlock ∧ some k_ ≠ ((.slice Ao62 t316.length co62) : Value).ownBlock) (.slice Ao51 t311.length co51) t311) ∧ Aside0 (Kd.R (Kd.int .i64) 3 wc w.heap.size (fun k_ => some k_ ≠ ((.slice Ao122 t278.length co122) : Value).ownBlock ∧ some k_ ≠ ((.slice Ao50 t310.length co50) : Value).ownBlock ∧ some k_ ≠ ((.slice Ao51 t311.length co51) : Value).ownBlock ∧ some k_ ≠ ((.slice Ao60 t314.length co60) : Value).ownBlock ∧ some k_ ≠ ((.slice Ao61 t315.length co61) : Value).ownBlock ∧ some k_ ≠ ((.slice Ao62 t316.length co62) : Value).ownBlock) (.slice Ao52 t312.length co52) t312) ∧ Aside0 (Kd.R (Kd.int .i64) 3 wc w.heap.size (fun k_ => some k_ ≠ ((.slice Ao122 t278.length co122) : Value).ownBlock ∧ some k_ ≠ ((.slice Ao50 t310.length co50) : Value).ownBlock ∧ some k_ ≠ ((.slice Ao51 t311.length co51) : Value).ownBlock ∧ some k_ ≠ ((.slice Ao52 t312.length co52) : Value).ownBlock ∧ some k_ ≠ ((.slice Ao61 t315.length co61) : Value).ownBlock ∧ some k_ ≠ ((.slice Ao62 t316.length co62) : Value).ownBlock) (.slice Ao60 t314.length co60) t314) ∧ Aside0 (Kd.R (Kd.int .i64) 3 wc w.heap.size (fun k_ => some k_ ≠ ((.slice Ao122 t278.length co122) : Value).ownBlock ∧ some k_ ≠ ((.slice Ao50 t310.length co50) : Value).ownBlock ∧ some k_ ≠ ((.slice Ao51 t311.length co51) : Value).ownBlock ∧ some k_ ≠ ((.slice Ao52 t312.length co52) : Value).ownBlock ∧ some k_ ≠ ((.slice Ao60 t314.length co60) : Value).ownBlock ∧ some k_ ≠ ((.slice Ao62 t316.length co62) : Value).ownBlock) (.slice Ao61 t315.length co61) t315) ∧ Aside0 (Kd.R (Kd.int .i64) 3 wc w.heap.size (fun k_ => some k_ ≠ ((.slice Ao122 t278.length co122) : Value).ownBlock ∧ some k_ ≠ ((.slice Ao50 t310.length co50) : Value).ownBlock ∧ some k_ ≠ ((.slice Ao51 t311.length co51) : Value).ownBlock ∧ some k_ ≠ ((.slice Ao52 t312.length co52) : Value).ownBlock ∧ some k_ ≠ ((.slice Ao60 t314.length co60) : Value).ownBlock ∧ some k_ ≠ ((.slice Ao61 t315.length co61) : Value).ownBlock) (.slice Ao62 t316.length co62) t316) ∧ Aside0 (wc.heap[gb220]? = some (.cells #[.int .i64 a0_0, .int .i64 a0_1, .int .i64 a0_2, (.slice A0_3 l0_3.length c0_3), (.slice A0_4 l0_4.length c0_4), (.slice A0_5 l0_5.length c0_5)] 26 (0, 0))) ∧ Aside0 (wc.heap[gb221]? = some (.cells #[.int .i64 a1_0, .int .i64 a1_1, .int .i64 a1_2, (.slice A1_3 l1_3.length c1_3), (.slice A1_4 l1_4.length c1_4), (.slice A1_5 l1_5.length c1_5)] 26 (0, 0))) ∧ Aside0 (wc.heap[gb264]? = some (.cells #[.int .i64 t252, .int .i64 t253, .int .i64 t254, (.slice Ao50 t310.length co50), (.slice Ao51 t311.length co51), (.slice Ao52 t312.length co52)] 41 (0, 0))) ∧ Aside0 (wc.heap[gb277]? = some (.cells #[.int .i64 t265, .int .i64 t266, .int .i64 t267, (.slice Ao60 t314.length co60), (.slice Ao61 t315.length co61), (.slice Ao62 t316.length co62)] 41 (0, 0))) ∧ Aside0 (Below w.heap.size w wc))
               case first =>
                have H := HC121.out
                clear HC121
                replace H := Option.bind_eq_some_iff.mp H
                obtain ⟨t349, A1340, H⟩ := H
                have A134 := Aside0.mk A1340
                clear A1340
                by_cases c135 : t349 = true
                ·subst c135
                 have H1 : (laws_FnExactSortTable.j4 kj93 t319 t318 (t348 != t251)) = some r := by rw [if_pos rfl] at H; exact H
                 clear H
                 have H := H1
                 clear H1
                 have H' := Aside0.mk H
                 clear H
                 obtain ⟨Ao136, co136, eo136⟩ := Kd.R_slice HO347.out
                 subst eo136
                 obtain ⟨Ao137, co137, eo137⟩ := Kd.R_slice HO_8.out
                 subst eo137
                 go_wp2_with (first | ((with_reducible refine gate_callee (f := 23) rfl ?_); refine goesL_ (some 109) rfl rfl Try.func23 (by kernel_rfl) rfl #[.slice Ao136 t345.length co136, .slice Ao137 t248.length co137] rfl mpx7 ?_; (with_reducible refine (laws_eqIntS.calls kj93 _ _ t345 _ _ t248 true _ ?side1 ?side2 ?side3 ?side4 A134.out).mono ?_); (case side1 => exact cRx7 HO347.out); (case side2 => exact (Kd.R_reads' HO347.out).2.1); (case side3 => exact cRx7 HO_8.out); (case side4 => exact (Kd.R_reads' HO_8.out).2.1); rintro e w' ⟨rfl, ⟨nd, rfl⟩⟩; refine ⟨_, rfl, ?_⟩))
                 go_meet
                 case rel => exact ⟨_, ((t348 != t251)), (by first | rfl | (simp; done) | (simp [*]; done)), H', ⟨by have := HJ25.out; have := HJ73.out; have := HJ83.out; have := HJ93.out; first | omega | exact Nat.le_refl _⟩, ⟨by (try simp only [hl265003_93, hl265004_93, hl265005_93, hl278003_93, hl278004_93, hl278005_93]); exact rRx7 (mox7 HO_12.out)⟩, ⟨by (try simp only [hl265003_93, hl265004_93, hl265005_93, hl278003_93, hl278004_93, hl278005_93]); exact rRx7 (mox7 HO_265003.out)⟩, ⟨by (try simp only [hl265003_93, hl265004_93, hl265005_93, hl278003_93, hl278004_93, hl278005_93]); exact rRx7 (mox7 HO_265004.out)⟩, ⟨by (try simp only [hl265003_93, hl265004_93, hl265005_93, hl278003_93, hl278004_93, hl278005_93]); exact rRx7 (mox7 HO_265005.out)⟩, ⟨by (try simp only [hl265003_93, hl265004_93, hl265005_93, hl278003_93, hl278004_93, hl278005_93]); exact rRx7 (mox7 HO_278003.out)⟩, ⟨by (try simp only [hl265003_93, hl265004_93, hl265005_93, hl278003_93, hl278004_93, hl278005_93]); exact rRx7 (mox7 HO_278004.out)⟩, ⟨by (try simp only [hl265003_93, hl265004_93, hl265005_93, hl278003_93, hl278004_93, hl278005_93]); exact rRx7 (mox7 HO_278005.out)⟩, ⟨by (try simp only [hl265003_93, hl265004_93, hl265005_93, hl278003_93, hl278004_93, hl278005_93]); (with_reducible repeat (first | refine blk_drewN ?_ _ | refine blk_drew ?_ | refine blk_alloc ?_ _)); exact BK220.out⟩, ⟨by (try simp only [hl265003_93, hl265004_93, hl265005_93, hl278003_93, hl278004_93, hl278005_93]); (with_reducible repeat (first | refine blk_drewN ?_ _ | refine blk_drew ?_ | refine blk_alloc ?_ _)); exact BK221.out⟩, ⟨by (try simp only [hl265003_93, hl265004_93, hl265005_93, hl278003_93, hl278004_93, hl278005_93]); (with_reducible repeat (first | refine blk_drewN ?_ _ | refine blk_drew ?_ | refine blk_alloc ?_ _)); exact BK264.out⟩, ⟨by (try simp only [hl265003_93, hl265004_93, hl265005_93, hl278003_93, hl278004_93, hl278005_93]); (with_reducible repeat (first | refine blk_drewN ?_ _ | refine blk_drew ?_ | refine blk_alloc ?_ _)); exact BK277.out⟩, ⟨be4x7 HB.out GE220.out GE221.out GE264.out GE277.out⟩⟩
                ·replace c135 := Bool.eq_false_iff.mpr c135
                 subst c135
                 have H1 : (laws_FnExactSortTable.j4 kj93 t319 t318 true) = some r := by rw [if_neg (show ¬ (false = true) by decide)] at H; exact H
                 clear H
                 have H := H1
                 clear H1
                 have H' := Aside0.mk H
                 clear H
                 obtain ⟨Ao138, co138, eo138⟩ := Kd.R_slice HO347.out
                 subst eo138
                 obtain ⟨Ao139, co139, eo139⟩ := Kd.R_slice HO_8.out
                 subst eo139
                 go_wp2_with (first | ((with_reducible refine gate_callee (f := 23) rfl ?_); refine goesL_ (some 109) rfl rfl Try.func23 (by kernel_rfl) rfl #[.slice Ao138 t345.length co138, .slice Ao139 t248.length co139] rfl mpx7 ?_; (with_reducible refine (laws_eqIntS.calls kj93 _ _ t345 _ _ t248 false _ ?side1 ?side2 ?side3 ?side4 A134.out).mono ?_); (case side1 => exact cRx7 HO347.out); (case side2 => exact (Kd.R_reads' HO347.out).2.1); (case side3 => exact cRx7 HO_8.out); (case side4 => exact (Kd.R_reads' HO_8.out).2.1); rintro e w' ⟨rfl, ⟨nd, rfl⟩⟩; refine ⟨_, rfl, ?_⟩))
                 go_meet
                 case rel => exact ⟨_, (true), (by first | rfl | (simp; done) | (simp [*]; done)), H', ⟨by have := HJ25.out; have := HJ73.out; have := HJ83.out; have := HJ93.out; first | omega | exact Nat.le_refl _⟩, ⟨by (try simp only [hl265003_93, hl265004_93, hl265005_93, hl278003_93, hl278004_93, hl278005_93]); exact rRx7 (mox7 HO_12.out)⟩, ⟨by (try simp only [hl265003_93, hl265004_93, hl265005_93, hl278003_93, hl278004_93, hl278005_93]); exact rRx7 (mox7 HO_265003.out)⟩, ⟨by (try simp only [hl265003_93, hl265004_93, hl265005_93, hl278003_93, hl278004_93, hl278005_93]); exact rRx7 (mox7 HO_265004.out)⟩, ⟨by (try simp only [hl265003_93, hl265004_93, hl265005_93, hl278003_93, hl278004_93, hl278005_93]); exact rRx7 (mox7 HO_265005.out)⟩, ⟨by (try simp only [hl265003_93, hl265004_93, hl265005_93, hl278003_93, hl278004_93, hl278005_93]); exact rRx7 (mox7 HO_278003.out)⟩, ⟨by (try simp only [hl265003_93, hl265004_93, hl265005_93, hl278003_93, hl278004_93, hl278005_93]); exact rRx7 (mox7 HO_278004.out)⟩, ⟨by (try simp only [hl265003_93, hl265004_93, hl265005_93, hl278003_93, hl278004_93, hl278005_93]); exact rRx7 (mox7 HO_278005.out)⟩, ⟨by (try simp only [hl265003_93, hl265004_93, hl265005_93, hl278003_93, hl278004_93, hl278005_93]); (with_reducible repeat (first | refine blk_drewN ?_ _ | refine blk_drew ?_ | refine blk_alloc ?_ _)); exact BK220.out⟩, ⟨by (try simp only [hl265003_93, hl265004_93, hl265005_93, hl278003_93, hl278004_93, hl278005_93]); (with_reducible repeat (first | refine blk_drewN ?_ _ | refine blk_drew ?_ | refine blk_alloc ?_ _)); exact BK221.out⟩, ⟨by (try simp only [hl265003_93, hl265004_93, hl265005_93, hl278003_93, hl278004_93, hl278005_93]); (with_reducible repeat (first | refine blk_drewN ?_ _ | refine blk_drew ?_ | refine blk_alloc ?_ _)); exact BK264.out⟩, ⟨by (try simp only [hl265003_93, hl265004_93, hl265005_93, hl278003_93, hl278004_93, hl278005_93]); (with_reducible repeat (first | refine blk_drewN ?_ _ | refine blk_drew ?_ | refine blk_alloc ?_ _)); exact BK277.out⟩, ⟨be4x7 HB.out GE220.out GE221.out GE264.out GE277.out⟩⟩
               case rest =>
                clear HC121
                try clear c111; try clear c114; try clear c114b0; try clear c117; try clear c117b0; try clear c117b1; try clear c135
                obtain ⟨kq, x115_120, rfl, HA, HJ120, HO_12, HO_265003, HO_265004, HO_265005, HO_278003, HO_278004, HO_278005, BK220, BK221, BK264, BK277, HB⟩ := hcut
                have hl12_120 := (Kd.R_reads' HO_12.out).1
                rw [hl12_120] at HO_12
                (try simp only [hl12_120])
                (try simp only [hl12_120] at BK220)
                (try simp only [hl12_120] at BK221)
                (try simp only [hl12_120] at BK264)
                (try simp only [hl12_120] at BK277)
                (try simp only [hl12_120] at HO_265003)
                (try simp only [hl12_120] at HO_265004)
                (try simp only [hl12_120] at HO_265005)
                (try simp only [hl12_120] at HO_278003)
                (try simp only [hl12_120] at HO_278004)
                (try simp only [hl12_120] at HO_278005)
                cases kq with
                | zero => exact absurd HA.out (by simp [laws_FnExactSortTable.j4])
                | succ kj120 =>
                 have H := HA.out
                 clear HA
                 simp only [laws_FnExactSortTable.j4] at H
                 by_cases c140 : x115_120 = true
                 ·subst c140
                  have H1 : (some false) = some r := by rw [if_pos rfl] at H; exact H
                  clear H
                  have H := H1
                  clear H1
                  obtain rfl := Option.some.inj H
                  go_wp2
                  go_ret
                  exact ⟨by first | rfl | (simp [errW_none, errW_some] <;> rfl) | (simp [*, errW_none, errW_some] <;> rfl), be4x7 HB.out GE220.out GE221.out GE264.out GE277.out⟩
                 ·replace c140 := Bool.eq_false_iff.mpr c140
                  subst c140
                  have H1 : ((laws_heldIntS.f kj120 t319 1).bind fun t350 => (if t350 < 0 then (some false) else (if t350 = t318 then (some true) else (some false)))) = some r := by rw [if_neg (show ¬ (false = true) by decide)] at H; exact H
                  clear H
                  have H := H1
                  clear H1
                  replace H := Option.bind_eq_some_iff.mp H
                  obtain ⟨t350, A1410, H⟩ := H
                  have A141 := Aside0.mk A1410
                  clear A1410
                  by_cases c142 : t350 < 0
                  ·rw [if_pos c142] at H
                   have c142b0 : decide (t350 < 0) = true := decide_eq_true c142
                   clear c142
                   obtain rfl := Option.some.inj H
                   go_wp2_with (first | ((with_reducible refine gate_callee (f := 31) rfl ?_); refine goesL_ (some 118) rfl rfl Try.func31 (by kernel_rfl) rfl #[.slice Ao122 t319.length co122, .int .i64 1] rfl mpx7 ?_; (with_reducible refine (laws_heldIntS.calls kj120 _ _ t319 1 t350 _ ?side1 ?side2 A141.out).mono ?_); (case side1 => exact cRx7 HO_12.out); (case side2 => exact (Kd.R_reads' HO_12.out).2.1); rintro e w' ⟨rfl, ⟨nd, rfl⟩⟩; refine ⟨_, rfl, ?_⟩))
                   go_ret
                   exact ⟨by first | rfl | (simp [errW_none, errW_some] <;> rfl) | (simp [*, errW_none, errW_some] <;> rfl), be4x7 HB.out GE220.out GE221.out GE264.out GE277.out⟩
                  ·rw [if_neg c142] at H
                   have c142b0 : decide (t350 < 0) = false := decide_eq_false c142
                   clear c142
                   by_cases c143 : t350 = t318
                   ·rw [if_pos c143] at H
                    have c143b0 : (t350 == t318) = true := beq_iff_eq.mpr c143
                    have c143b1 : (t350 != t318) = false := bne_eq_false_iff_eq.mpr c143
                    clear c143
                    obtain rfl := Option.some.inj H
                    go_wp2_with (first | ((with_reducible refine gate_callee (f := 31) rfl ?_); refine goesL_ (some 118) rfl rfl Try.func31 (by kernel_rfl) rfl #[.slice Ao122 t319.length co122, .int .i64 1] rfl mpx7 ?_; (with_reducible refine (laws_heldIntS.calls kj120 _ _ t319 1 t350 _ ?side1 ?side2 A141.out).mono ?_); (case side1 => exact cRx7 HO_12.out); (case side2 => exact (Kd.R_reads' HO_12.out).2.1); rintro e w' ⟨rfl, ⟨nd, rfl⟩⟩; refine ⟨_, rfl, ?_⟩))
                    go_ret
                    exact ⟨by first | rfl | (simp [errW_none, errW_some] <;> rfl) | (simp [*, errW_none, errW_some] <;> rfl), be4x7 HB.out GE220.out GE221.out GE264.out GE277.out⟩
                   ·rw [if_neg c143] at H
                    have c143b0 : (t350 == t318) = false := beq_eq_false_iff_ne.mpr c143
                    have c143b1 : (t350 != t318) = true := bne_iff_ne.mpr c143
                    obtain rfl := Option.some.inj H
                    go_wp2_with (first | ((with_reducible refine gate_callee (f := 31) rfl ?_); refine goesL_ (some 118) rfl rfl Try.func31 (by kernel_rfl) rfl #[.slice Ao122 t319.length co122, .int .i64 1] rfl mpx7 ?_; (with_reducible refine (laws_heldIntS.calls kj120 _ _ t319 1 t350 _ ?side1 ?side2 A141.out).mono ?_); (case side1 => exact cRx7 HO_12.out); (case side2 => exact (Kd.R_reads' HO_12.out).2.1); rintro e w' ⟨rfl, ⟨nd, rfl⟩⟩; refine ⟨_, rfl, ?_⟩))
                    go_ret
                    exact ⟨by first | rfl | (simp [errW_none, errW_some] <;> rfl) | (simp [*, errW_none, errW_some] <;> rfl), be4x7 HB.out GE220.out GE221.out GE264.out GE277.out⟩
              ·rw [if_neg c117] at H
               have c117b0 : (t320 == t318) = false := beq_eq_false_iff_ne.mpr c117
               have c117b1 : (t320 != t318) = true := bne_iff_ne.mpr c117
               obtain rfl := Option.some.inj H
               obtain ⟨Ao144, co144, eo144⟩ := Kd.R_slice HO_12.out
               subst eo144
               go_wp2_with (first | ((with_reducible refine gate_callee (f := 30) rfl ?_); refine goesL_ (some 89) rfl rfl Try.func30 (by kernel_rfl) rfl #[.slice Ao144 t278.length co144, .int .i64 1] rfl mpx7 ?_; (with_reducible refine (laws_markIntS.calls kj93 (fun k_ => some k_ = (.slice Ao144 t278.length co144 : Value).ownBlock) (.slice Ao144 t278.length co144) t278 1 t318 t319 w _ ?side1 ?side2 A112.out).mono ?_); (case side1 => exact be4x7 HB.out GE220.out GE221.out GE264.out GE277.out); (case side2 => exact Kd.R_tight rfl HO_12.out); rintro e w145 ⟨rfl, hy0, hb, hkp⟩; refine ⟨_, rfl, ?_⟩; replace HO_8 := Aside0.mk (Kd.R_mono (ok' := fun k_ => some k_ ≠ (.slice Ao144 t278.length co144 : Value).ownBlock ∧ some k_ ≠ (.slice Ao50 t310.length co50 : Value).ownBlock ∧ some k_ ≠ (.slice Ao51 t311.length co51 : Value).ownBlock ∧ some k_ ≠ (.slice Ao52 t312.length co52 : Value).ownBlock ∧ some k_ ≠ (.slice Ao60 t314.length co60 : Value).ownBlock ∧ some k_ ≠ (.slice Ao61 t315.length co61 : Value).ownBlock ∧ some k_ ≠ (.slice Ao62 t316.length co62 : Value).ownBlock) (Kd.R_keptB (HO_8.out) hkp (fun k_ hk_ hs_ => (hk_.1) hs_)) (fun k_ hk_ => ⟨hk_.1.1, hk_.1.2.1, hk_.1.2.2.1, hk_.1.2.2.2.1, hk_.1.2.2.2.2.1, hk_.1.2.2.2.2.2.1, hk_.1.2.2.2.2.2.2⟩)); replace HO_265003 := Aside0.mk (Kd.R_mono (ok' := fun k_ => some k_ ≠ (v249 : Value).ownBlock ∧ some k_ ≠ (.slice Ao144 t278.length co144 : Value).ownBlock ∧ some k_ ≠ (.slice Ao51 t311.length co51 : Value).ownBlock ∧ some k_ ≠ (.slice Ao52 t312.length co52 : Value).ownBlock ∧ some k_ ≠ (.slice Ao60 t314.length co60 : Value).ownBlock ∧ some k_ ≠ (.slice Ao61 t315.length co61 : Value).ownBlock ∧ some k_ ≠ (.slice Ao62 t316.length co62 : Value).ownBlock) (Kd.R_keptB (HO_265003.out) hkp (fun k_ hk_ hs_ => (hk_.2.1) hs_)) (fun k_ hk_ => ⟨hk_.1.1, hk_.1.2.1, hk_.1.2.2.1, hk_.1.2.2.2.1, hk_.1.2.2.2.2.1, hk_.1.2.2.2.2.2.1, hk_.1.2.2.2.2.2.2⟩)); replace HO_265004 := Aside0.mk (Kd.R_mono (ok' := fun k_ => some k_ ≠ (v249 : Value).ownBlock ∧ some k_ ≠ (.slice Ao144 t278.length co144 : Value).ownBlock ∧ some k_ ≠ (.slice Ao50 t310.length co50 : Value).ownBlock ∧ some k_ ≠ (.slice Ao52 t312.length co52 : Value).ownBlock ∧ some k_ ≠ (.slice Ao60 t314.length co60 : Value).ownBlock ∧ some k_ ≠ (.slice Ao61 t315.length co61 : Value).ownBlock ∧ some k_ ≠ (.slice Ao62 t316.length co62 : Value).ownBlock) (Kd.R_keptB (HO_265004.out) hkp (fun k_ hk_ hs_ => (hk_.2.1) hs_)) (fun k_ hk_ => ⟨hk_.1.1, hk_.1.2.1, hk_.1.2.2.1, hk_.1.2.2.2.1, hk_.1.2.2.2.2.1, hk_.1.2.2.2.2.2.1, hk_.1.2.2.2.2.2.2⟩)); replace HO_265005 := Aside0.mk (Kd.R_mono (ok' := fun k_ => some k_ ≠ (v249 : Value).ownBlock ∧ some k_ ≠ (.slice Ao144 t278.length co144 : Value).ownBlock ∧ some k_ ≠ (.slice Ao50 t310.length co50 : Value).ownBlock ∧ some k_ ≠ (.slice Ao51 t311.length co51 : Value).ownBlock ∧ some k_ ≠ (.slice Ao60 t314.length co60 : Value).ownBlock ∧ some k_ ≠ (.slice Ao61 t315.length co61 : Value).ownBlock ∧ some k_ ≠ (.slice Ao62 t316.length co62 : Value).ownBlock) (Kd.R_keptB (HO_265005.out) hkp (fun k_ hk_ hs_ => (hk_.2.1) hs_)) (fun k_ hk_ => ⟨hk_.1.1, hk_.1.2.1, hk_.1.2.2.1, hk_.1.2.2.2.1, hk_.1.2.2.2.2.1, hk_.1.2.2.2.2.2.1, hk_.1.2.2.2.2.2.2⟩)); replace HO_278003 := Aside0.mk (Kd.R_mono (ok' := fun k_ => some k_ ≠ (v249 : Value).ownBlock ∧ some k_ ≠ (.slice Ao144 t278.length co144 : Value).ownBlock ∧ some k_ ≠ (.slice Ao50 t310.length co50 : Value).ownBlock ∧ some k_ ≠ (.slice Ao51 t311.length co51 : Value).ownBlock ∧ some k_ ≠ (.slice Ao52 t312.length co52 : Value).ownBlock ∧ some k_ ≠ (.slice Ao61 t315.length co61 : Value).ownBlock ∧ some k_ ≠ (.slice Ao62 t316.length co62 : Value).ownBlock) (Kd.R_keptB (HO_278003.out) hkp (fun k_ hk_ hs_ => (hk_.2.1) hs_)) (fun k_ hk_ => ⟨hk_.1.1, hk_.1.2.1, hk_.1.2.2.1, hk_.1.2.2.2.1, hk_.1.2.2.2.2.1, hk_.1.2.2.2.2.2.1, hk_.1.2.2.2.2.2.2⟩)); replace HO_278004 := Aside0.mk (Kd.R_mono (ok' := fun k_ => some k_ ≠ (v249 : Value).ownBlock ∧ some k_ ≠ (.slice Ao144 t278.length co144 : Value).ownBlock ∧ some k_ ≠ (.slice Ao50 t310.length co50 : Value).ownBlock ∧ some k_ ≠ (.slice Ao51 t311.length co51 : Value).ownBlock ∧ some k_ ≠ (.slice Ao52 t312.length co52 : Value).ownBlock ∧ some k_ ≠ (.slice Ao60 t314.length co60 : Value).ownBlock ∧ some k_ ≠ (.slice Ao62 t316.length co62 : Value).ownBlock) (Kd.R_keptB (HO_278004.out) hkp (fun k_ hk_ hs_ => (hk_.2.1) hs_)) (fun k_ hk_ => ⟨hk_.1.1, hk_.1.2.1, hk_.1.2.2.1, hk_.1.2.2.2.1, hk_.1.2.2.2.2.1, hk_.1.2.2.2.2.2.1, hk_.1.2.2.2.2.2.2⟩)); replace HO_278005 := Aside0.mk (Kd.R_mono (ok' := fun k_ => some k_ ≠ (v249 : Value).ownBlock ∧ some k_ ≠ (.slice Ao144 t278.length co144 : Value).ownBlock ∧ some k_ ≠ (.slice Ao50 t310.length co50 : Value).ownBlock ∧ some k_ ≠ (.slice Ao51 t311.length co51 : Value).ownBlock ∧ some k_ ≠ (.slice Ao52 t312.length co52 : Value).ownBlock ∧ some k_ ≠ (.slice Ao60 t314.length co60 : Value).ownBlock ∧ some k_ ≠ (.slice Ao61 t315.length co61 : Value).ownBlock) (Kd.R_keptB (HO_278005.out) hkp (fun k_ hk_ hs_ => (hk_.2.1) hs_)) (fun k_ hk_ => ⟨hk_.1.1, hk_.1.2.1, hk_.1.2.2.1, hk_.1.2.2.2.1, hk_.1.2.2.2.2.1, hk_.1.2.2.2.2.2.1, hk_.1.2.2.2.2.2.2⟩)); replace BK220 := Aside0.mk (blk_kept (rBx7 BK220.out) hkp (fun hs_ => (fun e_ => (Kd.R_ne HO_12.out BK220.out (by decide)) e_) hs_)); replace BK221 := Aside0.mk (blk_kept (rBx7 BK221.out) hkp (fun hs_ => (fun e_ => (Kd.R_ne HO_12.out BK221.out (by decide)) e_) hs_)); replace BK264 := Aside0.mk (blk_kept (rBx7 BK264.out) hkp (fun hs_ => (fun e_ => (Kd.R_ne HO_12.out BK264.out (by decide)) e_) hs_)); replace BK277 := Aside0.mk (blk_kept (rBx7 BK277.out) hkp (fun hs_ => (fun e_ => (Kd.R_ne HO_12.out BK277.out (by decide)) e_) hs_)); replace HO_12 := Aside0.mk (Kd.R_reok rfl hy0 (fun k_ e_ => HO_12.out.1 k_ e_)); replace HB := Aside0.mk (hb); (try clear hb); (try clear hkp); (try clear hy0)) | ((with_reducible refine gate_callee (f := 31) rfl ?_); refine goesL_ (some 92) rfl rfl Try.func31 (by kernel_rfl) rfl #[.slice Ao144 t319.length co144, .int .i64 1] rfl (by (try simp only [List.map_toArray, List.map_cons, List.map_nil]); first | done | (rw [show t319.length = t278.length from (Kd.R_reads' HO_12.out).1.symm] <;> rfl) | rfl | (simp only [List.length_drop, List.length_take]; rfl)) ?_; (with_reducible refine (laws_heldIntS.calls kj93 _ _ t319 1 t320 _ ?side1 ?side2 A113.out).mono ?_); (case side1 => exact cRx7 HO_12.out); (case side2 => rw [show t319.length = t278.length from (Kd.R_reads' HO_12.out).1.symm]; exact (Kd.R_reads' HO_12.out).2.1); rintro e w' ⟨rfl, ⟨nd, rfl⟩⟩; refine ⟨_, rfl, ?_⟩))
               go_ret
               exact ⟨by first | rfl | (simp [errW_none, errW_some] <;> rfl) | (simp [*, errW_none, errW_some] <;> rfl), be4x7 HB.out GE220.out GE221.out GE264.out GE277.out⟩

end Go.Proofs.Ytagnldmaglbpaaa.PFnExactSortTable
