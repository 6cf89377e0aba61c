/- This text is this session's own, not the print's: programs (wip/squeeze.py and others) made it out of what print.sh, or wip/ownprint.py, had written (BYTES set higher), its facts said by short words. -/
import Derived.Test.YtloddihakhgcdaaPFnExactDestinationSumsx0
import Derived.Test.YtloddihakhgcdaaPFnExactDestinationSumsx5
import Derived.Test.YtloddihakhgcdaaPFnExactDestinationSumsrx0
import Derived.Test.YtloddihakhgcdaaPFnExactDestinationSumswx0
namespace Go.Proofs.Ytloddihakhgcdaa.PFnExactDestinationSums
open Go.RowKit Go.Proofs.YtloddihakhgcdaaW.PrintWords Go.Proofs.YtloddihakhgcdaaW.PrintLast Go.Proofs.YtloddihakhgcdaaW.PrintMore
attribute [local go_sem] max2_int min2_int max_two min_two max_three min_three max_four min_four   -- for this text's walks alone
set_option linter.unusedVariables false
set_option linter.unusedSimpArgs false

/-! ### spec_acSums: function 35 -/
mutual
def spec_acSums.l0 : Nat → Int → Int → List Int → List Int → Int → Int → Int → Int → Int → List Int → List Int → List Int → List (List Int) → List Int → List Int → Int → Int → Int → Int → Int → Option (List Int)
 | 0, _, _, _, _, _, _, _, _, _, _, _, _, _, _, _, _, _, _, _, _ => none
 | k + 1, x3, x4, x11, x17, x18, x19, x214000, x214001, x214002, x214003, x214004, x214005, x215000, x215001, x215002, x215003, x215004, x215005, x215006, x215007 => if x19 < x18 then (if 0 ≤ x19 then (if x19 < (x17.length : Int) then (if (rd x17 x19) < 0 then (spec_acSums.j1 k x3 x4 x11 x19 x17 x18 x19 true x214000 x214001 x214002 x214003 x214004 x214005 x215000 x215001 x215002 x215003 x215004 x215005 x215006 x215007) else (if x4 ≥ 0 then (spec_acSums.j1 k x3 x4 x11 x19 x17 x18 x19 ((rd x17 x19) != x4) x214000 x214001 x214002 x214003 x214004 x214005 x215000 x215001 x215002 x215003 x215004 x215005 x215006 x215007) else (spec_acSums.j1 k x3 x4 x11 x19 x17 x18 x19 false x214000 x214001 x214002 x214003 x214004 x214005 x215000 x215001 x215002 x215003 x215004 x215005 x215006 x215007))) else (none)) else (none)) else (some x11)
def spec_acSums.j1 : Nat → Int → Int → List Int → Int → List Int → Int → Int → Bool → Int → Int → Int → List Int → List Int → List Int → List (List Int) → List Int → List Int → Int → Int → Int → Int → Int → Option (List Int)
 | 0, _, _, _, _, _, _, _, _, _, _, _, _, _, _, _, _, _, _, _, _, _, _ => none
 | k + 1, x3, x4, x11, x12, x17, x18, x19, x34, x214000, x214001, x214002, x214003, x214004, x214005, x215000, x215001, x215002, x215003, x215004, x215005, x215006, x215007 => if x34 = true then (spec_acSums.l0 k x3 x4 x11 x17 x18 (wrap64 (x19 + 1)) x214000 x214001 x214002 x214003 x214004 x214005 x215000 x215001 x215002 x215003 x215004 x215005 x215006 x215007) else ((spec_acTo.f x214000 x214001 x214002 x214003 x214004 x214005 x215000 x215001 x215002 x215003 x215004 x215005 x215006 x215007 x12 x3).bind fun t220 => (if 0 ≤ (wrap64 (2 * t220)) then (if (wrap64 (2 * t220)) < (x11.length : Int) then (if 0 ≤ x12 then (if x12 < (x214003.length : Int) then ((some (x11.set ((wrap64 (2 * t220)) : Int).toNat (wrap64 ((rd x11 (wrap64 (2 * t220))) + (rd x214003 x12))) : List Int)).bind fun y223 => (if 0 ≤ (wrap64 ((wrap64 (2 * t220)) + 1)) then (if (wrap64 ((wrap64 (2 * t220)) + 1)) < (x11.length : Int) then ((spec_moMetal.f x214000 x214001 x214002 x214003 x214004 x214005 x12).bind fun t225 => (spec_acSums.l0 k x3 x4 (y223.set ((wrap64 ((wrap64 (2 * t220)) + 1)) : Int).toNat (wrap64 ((rd y223 (wrap64 ((wrap64 (2 * t220)) + 1))) + t225))) x17 x18 (wrap64 (x19 + 1)) x214000 x214001 x214002 x214003 x214004 x214005 x215000 x215001 x215002 x215003 x215004 x215005 x215006 x215007)) else (none)) else (none))) else (none)) else (none)) else (none)) else (none)))
end
def spec_acSums.f (k : Nat) (a0_0 : Int) (a0_1 : Int) (a0_2 : Int) (l0_3 : List Int) (l0_4 : List Int) (l0_5 : List Int) (l1_0 : List (List Int)) (l1_1 : List Int) (l1_2 : List Int) (a1_3 : Int) (a1_4 : Int) (a1_5 : Int) (a1_6 : Int) (a1_7 : Int) (a2_0 : Int) (l2_1 : List Int) (a3 : Int) (a4 : Int) : Option (List Int) := if 6 ≤ 35184372088832 then (spec_acSums.l0 k a3 a4 (List.replicate 6 0) l2_1 (l2_1.length : Int) 0 a0_0 a0_1 a0_2 l0_3 l0_4 l0_5 l1_0 l1_1 l1_2 a1_3 a1_4 a1_5 a1_6 a1_7) else (none)
theorem spec_acSums.mono_l : ∀ k, (∀ y0 y1 y2 y3 y4 y5 y6 y7 y8 y9 y10 y11 y12 y13 y14 y15 y16 y17 y18 y19, LeO (spec_acSums.l0 k y0 y1 y2 y3 y4 y5 y6 y7 y8 y9 y10 y11 y12 y13 y14 y15 y16 y17 y18 y19) (spec_acSums.l0 (k + 1) y0 y1 y2 y3 y4 y5 y6 y7 y8 y9 y10 y11 y12 y13 y14 y15 y16 y17 y18 y19)) ∧ (∀ y0 y1 y2 y3 y4 y5 y6 y7 y8 y9 y10 y11 y12 y13 y14 y15 y16 y17 y18 y19 y20 y21, LeO (spec_acSums.j1 k y0 y1 y2 y3 y4 y5 y6 y7 y8 y9 y10 y11 y12 y13 y14 y15 y16 y17 y18 y19 y20 y21) (spec_acSums.j1 (k + 1) y0 y1 y2 y3 y4 y5 y6 y7 y8 y9 y10 y11 y12 y13 y14 y15 y16 y17 y18 y19 y20 y21))
 | 0 => ⟨fun _ _ _ _ _ _ _ _ _ _ _ _ _ _ _ _ _ _ _ _ r h => by simp [spec_acSums.l0] at h, fun _ _ _ _ _ _ _ _ _ _ _ _ _ _ _ _ _ _ _ _ _ _ r h => by simp [spec_acSums.j1] at h⟩
 | k + 1 => by
  obtain ⟨ih0, ih1⟩ := spec_acSums.mono_l k
  refine ⟨?_, ?_⟩
  ·intro y0 y1 y2 y3 y4 y5 y6 y7 y8 y9 y10 y11 y12 y13 y14 y15 y16 y17 y18 y19
   unfold spec_acSums.l0
   repeat' first
   | (with_reducible exact ih0 _ _ _ _ _ _ _ _ _ _ _ _ _ _ _ _ _ _ _ _)
   | (with_reducible exact ih1 _ _ _ _ _ _ _ _ _ _ _ _ _ _ _ _ _ _ _ _ _ _)
   | (with_reducible exact LeO.refl _)
   | (with_reducible exact LeO.none _)
   | (with_reducible refine LeO.ite ?_ ?_)
   | (with_reducible refine LeO.bind ?_ (fun _ => ?_))
   | exact ih0 _ _ _ _ _ _ _ _ _ _ _ _ _ _ _ _ _ _ _ _
   | exact ih1 _ _ _ _ _ _ _ _ _ _ _ _ _ _ _ _ _ _ _ _ _ _
   | exact LeO.none _
   | refine LeO.ite ?_ ?_
   | refine LeO.bind ?_ (fun _ => ?_)
  ·intro y0 y1 y2 y3 y4 y5 y6 y7 y8 y9 y10 y11 y12 y13 y14 y15 y16 y17 y18 y19 y20 y21
   unfold spec_acSums.j1
   repeat' first
   | (with_reducible exact ih0 _ _ _ _ _ _ _ _ _ _ _ _ _ _ _ _ _ _ _ _)
   | (with_reducible exact ih1 _ _ _ _ _ _ _ _ _ _ _ _ _ _ _ _ _ _ _ _ _ _)
   | (with_reducible exact LeO.refl _)
   | (with_reducible exact LeO.none _)
   | (with_reducible refine LeO.ite ?_ ?_)
   | (with_reducible refine LeO.bind ?_ (fun _ => ?_))
   | exact ih0 _ _ _ _ _ _ _ _ _ _ _ _ _ _ _ _ _ _ _ _
   | exact ih1 _ _ _ _ _ _ _ _ _ _ _ _ _ _ _ _ _ _ _ _ _ _
   | exact LeO.none _
   | refine LeO.ite ?_ ?_
   | refine LeO.bind ?_ (fun _ => ?_)
theorem spec_acSums.mono : ∀ a0 a1 a2 a3 a4 a5 a6 a7 a8 a9 a10 a11 a12 a13 a14 a15 a16 a17 k, LeO (spec_acSums.f k a0 a1 a2 a3 a4 a5 a6 a7 a8 a9 a10 a11 a12 a13 a14 a15 a16 a17) (spec_acSums.f (k + 1) a0 a1 a2 a3 a4 a5 a6 a7 a8 a9 a10 a11 a12 a13 a14 a15 a16 a17) := by
 intro a0 a1 a2 a3 a4 a5 a6 a7 a8 a9 a10 a11 a12 a13 a14 a15 a16 a17 k
 obtain ⟨ih0, ih1⟩ := spec_acSums.mono_l k
 unfold spec_acSums.f
 repeat' first
   | (with_reducible exact ih0 _ _ _ _ _ _ _ _ _ _ _ _ _ _ _ _ _ _ _ _)
   | (with_reducible exact ih1 _ _ _ _ _ _ _ _ _ _ _ _ _ _ _ _ _ _ _ _ _ _)
   | (with_reducible exact LeO.refl _)
   | (with_reducible exact LeO.none _)
   | (with_reducible refine LeO.ite ?_ ?_)
   | (with_reducible refine LeO.bind ?_ (fun _ => ?_))
   | exact ih0 _ _ _ _ _ _ _ _ _ _ _ _ _ _ _ _ _ _ _ _
   | exact ih1 _ _ _ _ _ _ _ _ _ _ _ _ _ _ _ _ _ _ _ _ _ _
   | exact LeO.none _
   | refine LeO.ite ?_ ?_
   | refine LeO.bind ?_ (fun _ => ?_)
def spec_acSums.T7 : Bool × List (List Nat × List Nat) := (true, [([], []), ([], []), ([0, 1], [0, 1]), ([2], [2]), ([], []), ([4], [4]), ([], []), ([5, 6], [5, 6]), ([7], [7]), ([3, 8], [3, 8]), ([0, 1, 0, 1, 2, 3, 4, 5, 6, 7, 8, 9], [0, 1]), ([10, 9, 0, 1, 2, 3, 4, 5, 6, 7, 8, 9], [9, 10])])
def spec_acSums.B7 : List Nat := [0, 0, 3, 7, 0, 16, 0, 112, 240, 511, 1023, 2047]
theorem spec_acSums.tab7 : rtab .any (opsOf Try.f35 7) = spec_acSums.T7 := by kernel_rfl
theorem spec_acSums.bits7 : waitsOk spec_acSums.T7.2 spec_acSums.B7 = true := by kernel_rfl
def spec_acSums.T8 : Bool × List (List Nat × List Nat) := (true, [([], []), ([], []), ([1], [1]), ([0, 2], [0, 2]), ([3], [3]), ([], []), ([], []), ([5, 6], [5, 6]), ([4, 7], [4, 7]), ([0, 2, 0, 1, 2, 3, 4, 5, 6, 7, 8], [0, 2]), ([9, 8, 7, 0, 1, 2, 3, 4, 5, 6, 7, 8], [8, 9])])
def spec_acSums.B8 : List Nat := [0, 0, 2, 7, 15, 0, 0, 96, 255, 511, 1023]
theorem spec_acSums.tab8 : rtab .any (opsOf Try.f35 8) = spec_acSums.T8 := by kernel_rfl
theorem spec_acSums.bits8 : waitsOk spec_acSums.T8.2 spec_acSums.B8 = true := by kernel_rfl
set_option maxHeartbeats 8000000 in
set_option maxRecDepth 100000 in
theorem spec_acSums.calls (k : Nat) (a0_0 : Int) (a0_1 : Int) (a0_2 : Int) (A0_3 : Option Addr) (c0_3 : Nat) (l0_3 : List Int) (A0_4 : Option Addr) (c0_4 : Nat) (l0_4 : List Int) (A0_5 : Option Addr) (c0_5 : Nat) (l0_5 : List Int) (A1_0 : Option Addr) (c1_0 : Nat) (l1_0 : List (List Int)) (A1_1 : Option Addr) (c1_1 : Nat) (l1_1 : List Int) (A1_2 : Option Addr) (c1_2 : Nat) (l1_2 : List Int) (a1_3 : Int) (a1_4 : Int) (a1_5 : Int) (a1_6 : Int) (a1_7 : Int) (a2_0 : Int) (A2_1 : Option Addr) (c2_1 : Nat) (l2_1 : List Int) (a3 : Int) (a4 : Int) (r : List Int) (w : World) (hr0_3 : Kd.C (Kd.int .i64) w A0_3 l0_3.length l0_3) (hc0_3 : l0_3.length ≤ c0_3) (hr0_4 : Kd.C (Kd.int .i64) w A0_4 l0_4.length l0_4) (hc0_4 : l0_4.length ≤ c0_4) (hr0_5 : Kd.C (Kd.int .i64) w A0_5 l0_5.length l0_5) (hc0_5 : l0_5.length ≤ c0_5) (hr1_0 : Kd.C (Kd.slice 3 (Kd.int .i64)) w A1_0 l1_0.length l1_0) (hc1_0 : l1_0.length ≤ c1_0) (hr1_1 : Kd.C (Kd.int .i64) w A1_1 l1_1.length l1_1) (hc1_1 : l1_1.length ≤ c1_1) (hr1_2 : Kd.C (Kd.int .i64) w A1_2 l1_2.length l1_2) (hc1_2 : l1_2.length ≤ c1_2) (hr2_1 : Kd.C (Kd.int .i64) w A2_1 l2_1.length l2_1) (hc2_1 : l2_1.length ≤ c2_1) (h : spec_acSums.f k a0_0 a0_1 a0_2 l0_3 l0_4 l0_5 l1_0 l1_1 l1_2 a1_3 a1_4 a1_5 a1_6 a1_7 a2_0 l2_1 a3 a4 = some r) :
  Calls Try.prog 35 #[.agg #[.int .i64 a0_0, .int .i64 a0_1, .int .i64 a0_2, .slice A0_3 l0_3.length c0_3, .slice A0_4 l0_4.length c0_4, .slice A0_5 l0_5.length c0_5], .agg #[.slice A1_0 l1_0.length c1_0, .slice A1_1 l1_1.length c1_1, .slice A1_2 l1_2.length c1_2, .int .i64 a1_3, .int .i64 a1_4, .int .i64 a1_5, .int .i64 a1_6, .int .i64 a1_7], .agg #[.int .i64 a2_0, .slice A2_1 l2_1.length c2_1], .int .i64 a3, .int .i64 a4] w fun e w' => ∃ v0_ : Value, e = .returned (v0_) ∧ Kd.R (Kd.int .i64) 3 w' w.heap.size (fun _ => True) v0_ r ∧ Below w.heap.size w w' := by
 have hu41 := Try.underlying41
 have hu45 := Try.underlying45
 have hu47 := Try.underlying47
 have HR0_3 := m_ hr0_3
 have HC0_3 := m_ hc0_3
 clear hr0_3 hc0_3
 have HR0_4 := m_ hr0_4
 have HC0_4 := m_ hc0_4
 clear hr0_4 hc0_4
 have HR0_5 := m_ hr0_5
 have HC0_5 := m_ hc0_5
 clear hr0_5 hc0_5
 have HR1_0 := m_ hr1_0
 have HC1_0 := m_ hc1_0
 clear hr1_0 hc1_0
 have HR1_1 := m_ hr1_1
 have HC1_1 := m_ hc1_1
 clear hr1_1 hc1_1
 have HR1_2 := m_ hr1_2
 have HC1_2 := m_ hc1_2
 clear hr1_2 hc1_2
 have HR2_1 := m_ hr2_1
 have HC2_1 := m_ hc2_1
 clear hr2_1 hc2_1
 have HB := m_ (Below.refl w.heap.size w)
 have H : (if 6 ≤ 35184372088832 then (spec_acSums.l0 k a3 a4 (List.replicate 6 0) l2_1 (l2_1.length : Int) 0 a0_0 a0_1 a0_2 l0_3 l0_4 l0_5 l1_0 l1_1 l1_2 a1_3 a1_4 a1_5 a1_6 a1_7) else (none)) = some r := h
 clear h
 by_cases c6 : 6 ≤ 35184372088832
 ·rw [if_pos c6] at H
  have c6b0 := eq_true c6
  have c6b1 := decide_eq_true c6
  clear c6
  obtain ⟨y216, hy216⟩ : ∃ y_ : List Int, y_ = (List.replicate 6 0) := ⟨_, rfl⟩
  replace H : (spec_acSums.l0 k a3 a4 y216 l2_1 (l2_1.length : Int) 0 a0_0 a0_1 a0_2 l0_3 l0_4 l0_5 l1_0 l1_1 l1_2 a1_3 a1_4 a1_5 a1_6 a1_7) = some r := by first | (rw [hy216]; with_reducible exact H) | (have H2_ := (Option.bind_some _ _).symm.trans H; rw [hy216]; with_reducible exact H2_) | (have H2_ := (Option.bind_some _ _).symm.trans H; with_reducible exact H2_) | with_reducible exact H | (rw [hy216]; exact H) | exact H
  have Ny216 := m_ hy216
  clear hy216
  have H' := m_ H
  clear H
  go_enter Try.func35, Try.ntmps35
  go_wp2_with (first | ((with_reducible refine gate_dst (N := 5) rfl ?_); refine bxx0 5 41 #[.int .i64 a0_0, .int .i64 a0_1, .int .i64 a0_2, .slice A0_3 l0_3.length c0_3, .slice A0_4 l0_4.length c0_4, .slice A0_5 l0_5.length c0_5] (be0x0 HB.out) (below_size (be0x0 HB.out)) ?_; clear HB; intro gb213 w7 BK213 HB GE213 hb hg; clear hb hg) | ((with_reducible refine gate_dst (N := 6) rfl ?_); refine bxx0 6 45 #[.slice A1_0 l1_0.length c1_0, .slice A1_1 l1_1.length c1_1, .slice A1_2 l1_2.length c1_2, .int .i64 a1_3, .int .i64 a1_4, .int .i64 a1_5, .int .i64 a1_6, .int .i64 a1_7] (be1x0 HB.out GE213.out) (below_size (be1x0 HB.out GE213.out)) ?_; clear HB; intro gb214 w8 BK214 HB GE214 hb hg; have NB213_214 := nbx0 BK213 hg; have NB214_213 := ncx0 BK213 hg; replace BK213 := kbx0 BK213 hb; clear hb hg) | ((with_reducible refine gate_dst (N := 7) rfl ?_); refine bxx0 7 47 #[.int .i64 a2_0, .slice A2_1 l2_1.length c2_1] (be2x0 HB.out GE213.out GE214.out) (below_size (be2x0 HB.out GE213.out GE214.out)) ?_; clear HB; intro gb215 w9 BK215 HB GE215 hb hg; have NB213_215 := nbx0 BK213 hg; have NB215_213 := ncx0 BK213 hg; replace BK213 := kbx0 BK213 hb; have NB214_215 := nbx0 BK214 hg; have NB215_214 := ncx0 BK214 hg; replace BK214 := kbx0 BK214 hb; clear hb hg) | ((with_reducible refine gate_dst (N := 15) rfl ?_); refine Kd.R_make (Kd.int .i64) _ 3 rfl (N := 15) rfl 24 _ _ rfl 6 rfl rfl Try.underlying24 (.int .i64 0) 8 info3 rfl (by decide) (by omega) 0 (ok := fun _ => True) (okp := fun _ => True) rfl (fun _ hk => hk) trivial (by omega) (by omega) (Below.refl _ _) (Nat.le_refl _) ?_; intro v217 w10 ho11 hb hg_ hnew_; clear hg_ hnew_; (first | rw [← Ny216.out] at ho11 | (simp only [Int.reduceToNat] at ho11; rw [← Ny216.out] at ho11)); have HO218 := m_ (Kd.R_lower ho11 (below_size (be3x0 HB.out GE213.out GE214.out GE215.out))); replace BK213 := kbx0 BK213 hb; replace BK214 := kbx0 BK214 hb; replace BK215 := kbx0 BK215 hb; replace HB := m_ (below_step (be3x0 HB.out GE213.out GE214.out GE215.out) hb); clear hb ho11; have hnb12 := NB215_213.out; have hnc12 := NB213_215.out; have hnb13 := NB215_214.out; have hnc13 := NB214_215.out; obtain ⟨hcz14_0, hcz14_1, hfz14_0, hfz14_1⟩ := cf2x0 BK215.out))
  go_loopg [19] k (fun kq v19 w' => ∃ (x11_1 : List Int) (x19_1 : Int), v19 = .int .i64 x19_1 ∧ Aside0 (spec_acSums.l0 kq a3 a4 x11_1 l2_1 (l2_1.length : Int) x19_1 a0_0 a0_1 a0_2 l0_3 l0_4 l0_5 l1_0 l1_1 l1_2 a1_3 a1_4 a1_5 a1_6 a1_7 = some r) ∧ Aside0 (kq ≤ k) ∧ Aside0 (Kd.R (Kd.int .i64) 3 w' w.heap.size (fun _ => True) v217 x11_1) ∧ Aside0 (w'.heap[gb213]? = some (.cells #[.int .i64 a0_0, .int .i64 a0_1, .int .i64 a0_2, (.slice A0_3 l0_3.length c0_3), (.slice A0_4 l0_4.length c0_4), (.slice A0_5 l0_5.length c0_5)] 41 (0, 0))) ∧ Aside0 (w'.heap[gb214]? = some (.cells #[(.slice A1_0 l1_0.length c1_0), (.slice A1_1 l1_1.length c1_1), (.slice A1_2 l1_2.length c1_2), .int .i64 a1_3, .int .i64 a1_4, .int .i64 a1_5, .int .i64 a1_6, .int .i64 a1_7] 45 (0, 0))) ∧ Aside0 (w'.heap[gb215]? = some (.cells #[.int .i64 a2_0, (.slice A2_1 l2_1.length c2_1)] 47 (0, 0))) ∧ Aside0 (Below w.heap.size w w'))
  case atStart => exact ⟨(y216), (0), frx0, H', ⟨Nat.le_refl _⟩, ⟨rRx0 HO218.out⟩, ⟨rBx0 BK213.out⟩, ⟨rBx0 BK214.out⟩, ⟨rBx0 BK215.out⟩, ⟨be3x0 HB.out GE213.out GE214.out GE215.out⟩⟩
  case round =>
   clear H'
   try clear c6; try clear c6b0; try clear c6b1; try clear hcz14_0 hcz14_1 hfz14_0 hfz14_1
   obtain ⟨x11_1, x19_1, rfl, HA, HK1, HO_11, BK213, BK214, BK215, HB⟩ := hrel
   cases gk with
   | zero => exact absurd HA.out (by simp [spec_acSums.l0])
   | succ k1 =>
    have H := HA.out
    clear HA
    simp only [spec_acSums.l0] at H
    by_cases c15 : x19_1 < (l2_1.length : Int)
    ·rw [if_pos c15] at H
     have c15b0 := decide_eq_true c15
     clear c15
     by_cases c16 : 0 ≤ x19_1
     ·rw [if_pos c16] at H
      have c16b0 := decide_eq_true c16
      clear c16
      by_cases c17 : x19_1 < (l2_1.length : Int)
      ·rw [if_pos c17] at H
       have c17b0 := decide_eq_true c17
       clear c17
       have HC18 := m_ H
       clear H
       obtain ⟨ad219, rfl, hx219_0, p219, q219⟩ := abx0 HB.out HR2_1.out x19_1
       go_upto_region 5 with (fail)
       go_cut [34] (fun v34 wc => ∃ (kq : Nat) (x34_17 : Bool), v34 = .bool x34_17 ∧ Aside0 (spec_acSums.j1 kq a3 a4 x11_1 x19_1 l2_1 (l2_1.length : Int) x19_1 x34_17 a0_0 a0_1 a0_2 l0_3 l0_4 l0_5 l1_0 l1_1 l1_2 a1_3 a1_4 a1_5 a1_6 a1_7 = some r) ∧ Aside0 (kq ≤ k1) ∧ Aside0 (Kd.R (Kd.int .i64) 3 wc w.heap.size (fun _ => True) v217 x11_1) ∧ Aside0 (wc.heap[gb213]? = some (.cells #[.int .i64 a0_0, .int .i64 a0_1, .int .i64 a0_2, (.slice A0_3 l0_3.length c0_3), (.slice A0_4 l0_4.length c0_4), (.slice A0_5 l0_5.length c0_5)] 41 (0, 0))) ∧ Aside0 (wc.heap[gb214]? = some (.cells #[(.slice A1_0 l1_0.length c1_0), (.slice A1_1 l1_1.length c1_1), (.slice A1_2 l1_2.length c1_2), .int .i64 a1_3, .int .i64 a1_4, .int .i64 a1_5, .int .i64 a1_6, .int .i64 a1_7] 45 (0, 0))) ∧ Aside0 (wc.heap[gb215]? = some (.cells #[.int .i64 a2_0, (.slice (some ad219) l2_1.length c2_1)] 47 (0, 0))) ∧ Aside0 (Below w.heap.size w wc))
       case first =>
        have H := HC18.out
        clear HC18
        by_cases c19 : (rd l2_1 x19_1) < 0
        ·rw [if_pos c19] at H
         have c19b0 := decide_eq_true c19
         clear c19
         (first | rw [c19b0] | (simp only [i64_w, i32_w]; rw [c19b0]) | skip)
         have H' := m_ H
         clear H
         go_wp2
         go_meet
         case rel => exact ⟨_, (true), frx0, H', ⟨by have := HK1.out; first | omega | exact Nat.le_refl _⟩, ⟨rRx0 HO_11.out⟩, ⟨rBx0 BK213.out⟩, ⟨rBx0 BK214.out⟩, ⟨rBx0 BK215.out⟩, ⟨be3x0 HB.out GE213.out GE214.out GE215.out⟩⟩
        ·rw [if_neg c19] at H
         have c19b0 := decide_eq_false c19
         clear c19
         (first | rw [c19b0] | (simp only [i64_w, i32_w]; rw [c19b0]) | skip)
         by_cases c20 : a4 ≥ 0
         ·rw [if_pos c20] at H
          have c20b0 : decide (0 ≤ a4) = true := decide_eq_true c20
          clear c20
          have H' := m_ H
          clear H
          go_wp2
          go_meet
          case rel => exact ⟨_, (((rd l2_1 x19_1) != a4)), frx0, H', ⟨by have := HK1.out; first | omega | exact Nat.le_refl _⟩, ⟨rRx0 HO_11.out⟩, ⟨rBx0 BK213.out⟩, ⟨rBx0 BK214.out⟩, ⟨rBx0 BK215.out⟩, ⟨be3x0 HB.out GE213.out GE214.out GE215.out⟩⟩
         ·rw [if_neg c20] at H
          have c20b0 : decide (0 ≤ a4) = false := decide_eq_false c20
          clear c20
          have H' := m_ H
          clear H
          go_wp2
          go_meet
          case rel => exact ⟨_, (false), frx0, H', ⟨by have := HK1.out; first | omega | exact Nat.le_refl _⟩, ⟨rRx0 HO_11.out⟩, ⟨rBx0 BK213.out⟩, ⟨rBx0 BK214.out⟩, ⟨rBx0 BK215.out⟩, ⟨be3x0 HB.out GE213.out GE214.out GE215.out⟩⟩
       case rest =>
        clear HC18
        try clear c15; try clear c15b0; try clear c16; try clear c16b0; try clear c17; try clear c17b0; try clear c19; try clear c19b0; try clear c20; try clear c20b0; try clear hx219_0; try clear p219; try clear q219
        obtain ⟨kq, x34_17, rfl, HA, HJ17, HO_11, BK213, BK214, BK215, HB⟩ := hcut
        cases kq with
        | zero => exact absurd HA.out (by simp [spec_acSums.j1])
        | succ kj17 =>
         have H := HA.out
         clear HA
         simp only [spec_acSums.j1] at H
         by_cases c21 : x34_17 = true
         ·subst c21
          have H1 : (spec_acSums.l0 kj17 a3 a4 x11_1 l2_1 (l2_1.length : Int) (wrap64 (x19_1 + 1)) a0_0 a0_1 a0_2 l0_3 l0_4 l0_5 l1_0 l1_1 l1_2 a1_3 a1_4 a1_5 a1_6 a1_7) = some r := by rw [if_pos rfl] at H; exact H
          clear H
          have H := H1
          clear H1
          have H' := m_ H
          clear H
          go_wp2
          go_roundg kj17
          case measure => have := HK1.out; have := HJ17.out; omega
          case rel => exact ⟨(x11_1), (wrap64 (x19_1 + 1)), frx0, H', ⟨by have := HK1.out; have := HJ17.out; omega⟩, ⟨rRx0 HO_11.out⟩, ⟨rBx0 BK213.out⟩, ⟨rBx0 BK214.out⟩, ⟨rBx0 BK215.out⟩, ⟨be3x0 HB.out GE213.out GE214.out GE215.out⟩⟩
         ·replace c21 := Bool.eq_false_iff.mpr c21
          subst c21
          have H1 : ((spec_acTo.f a0_0 a0_1 a0_2 l0_3 l0_4 l0_5 l1_0 l1_1 l1_2 a1_3 a1_4 a1_5 a1_6 a1_7 x19_1 a3).bind fun t220 => (if 0 ≤ (wrap64 (2 * t220)) then (if (wrap64 (2 * t220)) < (x11_1.length : Int) then (if 0 ≤ x19_1 then (if x19_1 < (l0_3.length : Int) then ((some (x11_1.set ((wrap64 (2 * t220)) : Int).toNat (wrap64 ((rd x11_1 (wrap64 (2 * t220))) + (rd l0_3 x19_1))) : List Int)).bind fun y223 => (if 0 ≤ (wrap64 ((wrap64 (2 * t220)) + 1)) then (if (wrap64 ((wrap64 (2 * t220)) + 1)) < (x11_1.length : Int) then ((spec_moMetal.f a0_0 a0_1 a0_2 l0_3 l0_4 l0_5 x19_1).bind fun t225 => (spec_acSums.l0 kj17 a3 a4 (y223.set ((wrap64 ((wrap64 (2 * t220)) + 1)) : Int).toNat (wrap64 ((rd y223 (wrap64 ((wrap64 (2 * t220)) + 1))) + t225))) l2_1 (l2_1.length : Int) (wrap64 (x19_1 + 1)) a0_0 a0_1 a0_2 l0_3 l0_4 l0_5 l1_0 l1_1 l1_2 a1_3 a1_4 a1_5 a1_6 a1_7)) else (none)) else (none))) else (none)) else (none)) else (none)) else (none))) = some r := by rw [if_neg (show ¬ (false = true) by decide)] at H; exact H
          clear H
          have H := H1
          clear H1
          replace H := Option.bind_eq_some_iff.mp H
          obtain ⟨t220, A220, H⟩ := H
          have A22 := m_ A220
          clear A220
          obtain ⟨ji23, hji23⟩ : ∃ j_ : Int, (wrap64 (2 * t220)) = j_ := ⟨_, rfl⟩
          replace H : (if 0 ≤ (ji23) then (if (ji23) < (x11_1.length : Int) then (if 0 ≤ x19_1 then (if x19_1 < (l0_3.length : Int) then ((some (x11_1.set ((ji23) : Int).toNat (wrap64 ((rd x11_1 (ji23)) + (rd l0_3 x19_1))) : List Int)).bind fun y223 => (if 0 ≤ (wrap64 ((ji23) + 1)) then (if (wrap64 ((ji23) + 1)) < (x11_1.length : Int) then ((spec_moMetal.f a0_0 a0_1 a0_2 l0_3 l0_4 l0_5 x19_1).bind fun t225 => (spec_acSums.l0 kj17 a3 a4 (y223.set ((wrap64 ((ji23) + 1)) : Int).toNat (wrap64 ((rd y223 (wrap64 ((ji23) + 1))) + t225))) l2_1 (l2_1.length : Int) (wrap64 (x19_1 + 1)) a0_0 a0_1 a0_2 l0_3 l0_4 l0_5 l1_0 l1_1 l1_2 a1_3 a1_4 a1_5 a1_6 a1_7)) else (none)) else (none))) else (none)) else (none)) else (none)) else (none)) = some r := by first | (rw [hji23] at H; exact H) | (simp only [hji23] at H ⊢; exact H)
          (try rw [hji23] at A22)
          have hji23w : (IntKind.i64.wrap (2 * t220)) = ji23 := (i64_w _).trans hji23
          by_cases c24 : 0 ≤ (ji23)
          ·rw [if_pos c24] at H
           have c24b0 := decide_eq_true c24
           clear c24
           by_cases c25 : (ji23) < (x11_1.length : Int)
           ·rw [if_pos c25] at H
            have c25b0 := decide_eq_true c25
            clear c25
            by_cases c26 : 0 ≤ x19_1
            ·rw [if_pos c26] at H
             have c26b0 := decide_eq_true c26
             clear c26
             by_cases c27 : x19_1 < (l0_3.length : Int)
             ·rw [if_pos c27] at H
              have c27b0 := decide_eq_true c27
              clear c27
              obtain ⟨y223, hy223⟩ : ∃ y_ : List Int, y_ = (x11_1.set ((ji23) : Int).toNat (wrap64 ((rd x11_1 (ji23)) + (rd l0_3 x19_1)))) := ⟨_, rfl⟩
              replace H : (if 0 ≤ (wrap64 ((ji23) + 1)) then (if (wrap64 ((ji23) + 1)) < (x11_1.length : Int) then ((spec_moMetal.f a0_0 a0_1 a0_2 l0_3 l0_4 l0_5 x19_1).bind fun t225 => (spec_acSums.l0 kj17 a3 a4 (y223.set ((wrap64 ((ji23) + 1)) : Int).toNat (wrap64 ((rd y223 (wrap64 ((ji23) + 1))) + t225))) l2_1 (l2_1.length : Int) (wrap64 (x19_1 + 1)) a0_0 a0_1 a0_2 l0_3 l0_4 l0_5 l1_0 l1_1 l1_2 a1_3 a1_4 a1_5 a1_6 a1_7)) else (none)) else (none)) = some r := by first | (rw [hy223]; with_reducible exact H) | (have H2_ := (Option.bind_some _ _).symm.trans H; rw [hy223]; with_reducible exact H2_) | (have H2_ := (Option.bind_some _ _).symm.trans H; with_reducible exact H2_) | with_reducible exact H | (rw [hy223]; exact H) | exact H
              have Ny223 := m_ hy223
              clear hy223
              obtain ⟨ji29, hji29⟩ : ∃ j_ : Int, (wrap64 ((ji23) + 1)) = j_ := ⟨_, rfl⟩
              replace H : (if 0 ≤ (ji29) then (if (ji29) < (x11_1.length : Int) then ((spec_moMetal.f a0_0 a0_1 a0_2 l0_3 l0_4 l0_5 x19_1).bind fun t225 => (spec_acSums.l0 kj17 a3 a4 (y223.set ((ji29) : Int).toNat (wrap64 ((rd y223 (ji29)) + t225))) l2_1 (l2_1.length : Int) (wrap64 (x19_1 + 1)) a0_0 a0_1 a0_2 l0_3 l0_4 l0_5 l1_0 l1_1 l1_2 a1_3 a1_4 a1_5 a1_6 a1_7)) else (none)) else (none)) = some r := by first | (rw [hji29] at H; exact H) | (simp only [hji29] at H ⊢; exact H)
              (try rw [hji29] at A22)
              have hji29w : (IntKind.i64.wrap ((ji23) + 1)) = ji29 := (i64_w _).trans hji29
              by_cases c30 : 0 ≤ (ji29)
              ·rw [if_pos c30] at H
               have c30b0 := decide_eq_true c30
               clear c30
               by_cases c31 : (ji29) < (x11_1.length : Int)
               ·rw [if_pos c31] at H
                have c31b0 := decide_eq_true c31
                clear c31
                replace H := Option.bind_eq_some_iff.mp H
                obtain ⟨t225, A320, H⟩ := H
                have A32 := m_ A320
                clear A320
                obtain ⟨y226, hy226⟩ : ∃ y_ : List Int, y_ = (y223.set ((ji29) : Int).toNat (wrap64 ((rd y223 (ji29)) + t225))) := ⟨_, rfl⟩
                replace H : (spec_acSums.l0 kj17 a3 a4 y226 l2_1 (l2_1.length : Int) (wrap64 (x19_1 + 1)) a0_0 a0_1 a0_2 l0_3 l0_4 l0_5 l1_0 l1_1 l1_2 a1_3 a1_4 a1_5 a1_6 a1_7) = some r := by first | (rw [hy226]; with_reducible exact H) | (have H2_ := (Option.bind_some _ _).symm.trans H; rw [hy226]; with_reducible exact H2_) | (have H2_ := (Option.bind_some _ _).symm.trans H; with_reducible exact H2_) | with_reducible exact H | (rw [hy226]; exact H) | exact H
                have Ny226 := m_ hy226
                clear hy226
                have H' := m_ H
                clear H
                have hnb34 := NB213_214.out
                have hnc34 := NB214_213.out
                have hnb35 := NB213_215.out
                have hnc35 := NB215_213.out
                obtain ⟨hcz36_0, hcz36_1, hcz36_2, hcz36_3, hcz36_4, hcz36_5, hfz36_0, hfz36_1, hfz36_2, hfz36_3, hfz36_4, hfz36_5⟩ := cf6x0 BK213.out
                have hnb37 := NB214_215.out
                have hnc37 := NB215_214.out
                obtain ⟨hcz38_0, hcz38_1, hcz38_2, hcz38_3, hcz38_4, hcz38_5, hcz38_6, hcz38_7, hfz38_0, hfz38_1, hfz38_2, hfz38_3, hfz38_4, hfz38_5, hfz38_6, hfz38_7⟩ := cf8x0 BK214.out
                try go_wp2_with (first | ((with_reducible refine gate_callee (f := 50) rfl ?_); refine gLx0 (some 39) Try.func50 #[.agg #[.int .i64 a0_0, .int .i64 a0_1, .int .i64 a0_2, .slice A0_3 l0_3.length c0_3, .slice A0_4 l0_4.length c0_4, .slice A0_5 l0_5.length c0_5], .agg #[.slice A1_0 l1_0.length c1_0, .slice A1_1 l1_1.length c1_1, .slice A1_2 l1_2.length c1_2, .int .i64 a1_3, .int .i64 a1_4, .int .i64 a1_5, .int .i64 a1_6, .int .i64 a1_7], .int .i64 x19_1, .int .i64 a3] ?_; (with_reducible refine (spec_acTo.calls a0_0 a0_1 a0_2 _ _ l0_3 _ _ l0_4 _ _ l0_5 _ _ l1_0 _ _ l1_1 _ _ l1_2 a1_3 a1_4 a1_5 a1_6 a1_7 x19_1 a3 t220 _ ?side1 ?side2 ?side3 ?side4 ?side5 ?side6 ?side7 ?side8 ?side9 ?side10 ?side11 ?side12 A22.out).mono ?_); (case side1 => exact rCx0 (Kd.C_below HR0_3.out HB.out)); (case side2 => exact HC0_3.out); (case side3 => exact rCx0 (Kd.C_below HR0_4.out HB.out)); (case side4 => exact HC0_4.out); (case side5 => exact rCx0 (Kd.C_below HR0_5.out HB.out)); (case side6 => exact HC0_5.out); (case side7 => exact rCx0 (Kd.C_below HR1_0.out HB.out)); (case side8 => exact HC1_0.out); (case side9 => exact rCx0 (Kd.C_below HR1_1.out HB.out)); (case side10 => exact HC1_1.out); (case side11 => exact rCx0 (Kd.C_below HR1_2.out HB.out)); (case side12 => exact HC1_2.out); rintro e w39 ⟨rfl, hb⟩; refine ⟨_, rfl, ?_⟩; replace HO_11 := m_ (Kd.R_below (rRx0 HO_11.out) hb); replace BK213 := kbx0 BK213 hb; replace BK214 := kbx0 BK214 hb; replace BK215 := kbx0 BK215 hb; replace HB := m_ (below_step (be3x0 HB.out GE213.out GE214.out GE215.out) hb); (try clear hb); (try clear hb2); (try clear hk); (try clear hi)))
                replace HO_11 := m_ (Kd.R_drew HO_11.out)
                replace BK213 := m_ (blk_drew BK213.out)
                replace BK214 := m_ (blk_drew BK214.out)
                replace BK215 := m_ (blk_drew BK215.out)
                replace HB := m_ (below_drew1 HB.out)
                obtain ⟨Ao41, co41, eo41⟩ := Kd.R_slice HO_11.out
                (first | subst eo41 | (injection eo41 with f1_ f2_ f3_; have f4_ := f1_.symm; have f5_ := f3_.symm; clear f1_ f2_ f3_; subst f4_; subst f5_))
                obtain ⟨ad221, rfl, hx221_0, p221, q221⟩ := atx0 (Kd.R_reads' HO_11.out).2.2 (ji23)
                have p222 : 0 ≤ (x19_1 : Int) := dax0
                have q222 : x19_1 < (l0_3.length : Int) := dax0
                obtain ⟨ad222, e222, hx222_0⟩ := Kd.at_int HR0_3.out x19_1 p222 q222
                have hw222_0 := hx222_0
                cases e222
                replace hx222_0 := (HB.out.cell (World.block_lt_of_cell? w _ hx222_0)).trans hx222_0
                replace p222 := eq_true p222
                replace q222 := eq_true q222
                have p28 : 0 ≤ ((ji23) : Int) := dax0
                have q28 : ((ji23) : Int) < ((x11_1.length : Int) : Int) := dax0
                obtain ⟨go28, co28, eo28, gb28, gl28, cl28, HG28⟩ := Kd.R_form HO_11.out (by omega)
                (first | cases eo28 | (injection eo28 with ea_ en_ ec_; (first | subst ea_ | (injection ea_ with ea_; subst ea_)); subst ec_; clear en_))
                have GB28 := m_ gb28
                have GG28 := m_ HG28
                clear gb28 gl28 HG28
                (first | simp only [add_plain] at hx221_0 | skip)
                obtain ⟨hx28_0, hf28_0⟩ := Kd.R_celln 0 HO_11.out ((ji23) : Int) p28 q28
                replace p28 := eq_true p28
                replace q28 := eq_true q28
                have HP42 := Kd.R_putn HO_11.out ((ji23) : Int) (wrap64 ((rd x11_1 (ji23)) + (rd l0_3 x19_1)))
                rw [← Ny223.out] at HP42
                have HQ42 := m_ HP42
                clear HP42
                refine start_ (n := 12) (S := fun w' => w'.cell? ⟨gb213, 0, none⟩ = some (.int .i64 a0_0) ∧ w'.cell? ⟨gb213, 1, none⟩ = some (.int .i64 a0_1) ∧ w'.cell? ⟨gb213, 2, none⟩ = some (.int .i64 a0_2) ∧ w'.cell? ⟨gb213, 3, none⟩ = some (.slice (some ad222) l0_3.length c0_3) ∧ w'.cell? ⟨gb213, 4, none⟩ = some (.slice A0_4 l0_4.length c0_4) ∧ w'.cell? ⟨gb213, 5, none⟩ = some (.slice A0_5 l0_5.length c0_5) ∧ w'.cell? ⟨go28, ((ji23)).toNat, none⟩ = some (.int .i64 (rd x11_1 (ji23))) ∧ w'.cell? (ad222.add (x19_1).toNat) = some (.int .i64 (rd l0_3 x19_1))) (ds := [11]) (tf_ 0 12) (by kernel_rfl) rfl rfl ⟨(blk_cell BK213.out 0).trans rfl, (blk_cell BK213.out 1).trans rfl, (blk_cell BK213.out 2).trans rfl, (blk_cell BK213.out 3).trans rfl, (blk_cell BK213.out 4).trans rfl, (blk_cell BK213.out 5).trans rfl, hx221_0, ((HB.out.cell (World.block_lt_of_cell? w _ hw222_0)).trans hw222_0)⟩ (fun hHeld => ?_); refine with_tabW spec_acSums.tab7 spec_acSums.bits7 (fun HT_ HW_ => ?_)
                generalize w39.drew = w40 at HO_11 BK213 BK214 BK215 HB GG28 HQ42 hf28_0 hx221_0 hx222_0 hx28_0 hHeld ⊢
                refine pv_ 0 41 (tf_ 1 12) HT_ ?_
                refine pv_ 1 42 (tf_ 2 12) HT_ ?_
                refine pv_ 2 43 (tf_ 3 12) HT_ ?_
                refine pv_ 4 45 #[true, true, true, false, true, false, false, false, false, false, false, false] HT_ ?_
                refine pv_ 6 47 #[true, true, true, false, true, false, true, false, false, false, false, false] HT_ ?_
                refine take_ (i := 3) (N := some 44) (v := ?_) (a' := ?_) #[true, true, true, true, true, false, true, false, false, false, false, false] rfl rfl (take_ofW HT_.out HW_.out (by kernel_rfl)) (fun _ _ _ h => h) (Or.inl ⟨by rfl, ?_⟩) hHeld ?_ ?_
                rotate_left
                ·rintro w' ⟨s0, s1, s2, s3, s4, s5, s6, s7⟩
                 go_simp
                 with_reducible rfl
                rotate_left
                ·simp only [Act.put, List.setIfInBounds_toArray, List.set_cons_zero, List.set_cons_succ, i64_w, i32_w]
                 rfl
                refine take_ (i := 5) (N := some 46) (v := ?_) (a' := ?_) (tf_ 7 12) rfl rfl (take_ofW HT_.out HW_.out (by kernel_rfl)) (fun _ _ _ h => h) (Or.inl ⟨by rfl, ?_⟩) hHeld ?_ ?_
                rotate_left
                ·rintro w' ⟨s0, s1, s2, s3, s4, s5, s6, s7⟩
                 go_simp
                 with_reducible rfl
                rotate_left
                ·simp only [Act.put, List.setIfInBounds_toArray, List.set_cons_zero, List.set_cons_succ, i64_w, i32_w]
                 rfl
                refine pv_ 7 48 (tf_ 8 12) HT_ ?_
                refine take_ (i := 8) (N := some 49) (v := ?_) (a' := ?_) (tf_ 9 12) rfl rfl (take_ofW HT_.out HW_.out (by kernel_rfl)) (fun _ _ _ h => h) (Or.inl ⟨by rfl, ?_⟩) hHeld ?_ ?_
                rotate_left
                ·rintro w' ⟨s0, s1, s2, s3, s4, s5, s6, s7⟩
                 go_simp
                 with_reducible rfl
                rotate_left
                ·simp only [Act.put, List.setIfInBounds_toArray, List.set_cons_zero, List.set_cons_succ, i64_w, i32_w]
                 rfl
                refine pv_ 9 50 (tf_ 10 12) HT_ ?_
                refine pv_ 10 51 (tf_ 11 12) HT_ ?_
                refine last_ (i := 11) (N := none) (tf_ 12 12) rfl rfl (one_of HT_.out (by kernel_rfl)) (by decide) (fun K hK => ?_)
                refine skip_ (w1 := ?_) (by rfl) rfl ?_ ?_
                rotate_left
                ·go_simp
                 rfl
                refine hK.out _ _ ?_
                clear hK K
                refine done_ (done_of HT_.out (by kernel_rfl)) ?_
                try go_wp2
                have n0_ : Aside0 (Kd.R (Kd.int .i64) 3 (w40.setCell ⟨go28, ((ji23) : Int).toNat, none⟩ (.int .i64 (wrap64 ((rd x11_1 (ji23)) + (rd l0_3 x19_1))))) w.heap.size (fun _ => True) (.slice (some ⟨go28, 0, none⟩) x11_1.length co41) y223) := ⟨rRx0 HQ42.out⟩
                have n1_ : Aside0 ((w40.setCell ⟨go28, ((ji23) : Int).toNat, none⟩ (.int .i64 (wrap64 ((rd x11_1 (ji23)) + (rd l0_3 x19_1))))).heap[gb213]? = some (.cells #[.int .i64 a0_0, .int .i64 a0_1, .int .i64 a0_2, .slice (some ad222) l0_3.length c0_3, .slice A0_4 l0_4.length c0_4, .slice A0_5 l0_5.length c0_5] 41 (0, 0))) := ⟨by (with_reducible repeat (first | refine blk_drewN ?_ _ | refine blk_drew ?_ | refine blk_alloc ?_ _)); refine blk_far ?_ (by have h_ := Kd.R_ne HO_11.out BK213.out (by decide); intro e_; exact h_ (by rw [e_]; rfl)) _; (with_reducible repeat (first | refine blk_drewN ?_ _ | refine blk_drew ?_ | refine blk_alloc ?_ _)); exact BK213.out⟩
                have n2_ : Aside0 ((w40.setCell ⟨go28, ((ji23) : Int).toNat, none⟩ (.int .i64 (wrap64 ((rd x11_1 (ji23)) + (rd l0_3 x19_1))))).heap[gb214]? = some (.cells #[.slice A1_0 l1_0.length c1_0, .slice A1_1 l1_1.length c1_1, .slice A1_2 l1_2.length c1_2, .int .i64 a1_3, .int .i64 a1_4, .int .i64 a1_5, .int .i64 a1_6, .int .i64 a1_7] 45 (0, 0))) := ⟨by (with_reducible repeat (first | refine blk_drewN ?_ _ | refine blk_drew ?_ | refine blk_alloc ?_ _)); refine blk_far ?_ (by have h_ := Kd.R_ne HO_11.out BK214.out (by decide); intro e_; exact h_ (by rw [e_]; rfl)) _; (with_reducible repeat (first | refine blk_drewN ?_ _ | refine blk_drew ?_ | refine blk_alloc ?_ _)); exact BK214.out⟩
                have n3_ : Aside0 ((w40.setCell ⟨go28, ((ji23) : Int).toNat, none⟩ (.int .i64 (wrap64 ((rd x11_1 (ji23)) + (rd l0_3 x19_1))))).heap[gb215]? = some (.cells #[.int .i64 a2_0, .slice (some ad219) l2_1.length c2_1] 47 (0, 0))) := ⟨by (with_reducible repeat (first | refine blk_drewN ?_ _ | refine blk_drew ?_ | refine blk_alloc ?_ _)); refine blk_far ?_ (by have h_ := Kd.R_ne HO_11.out BK215.out (by decide); intro e_; exact h_ (by rw [e_]; rfl)) _; (with_reducible repeat (first | refine blk_drewN ?_ _ | refine blk_drew ?_ | refine blk_alloc ?_ _)); exact BK215.out⟩
                have n4_ : Aside0 (Below w.heap.size w (w40.setCell ⟨go28, ((ji23) : Int).toNat, none⟩ (.int .i64 (wrap64 ((rd x11_1 (ji23)) + (rd l0_3 x19_1)))))) := ⟨be4x0 HB.out GB28.out GE213.out GE214.out GE215.out⟩
                (try clear HO_11)
                (try clear BK213)
                (try clear BK214)
                (try clear BK215)
                (try clear HB)
                generalize (w40.setCell ⟨go28, ((ji23) : Int).toNat, none⟩ (.int .i64 (wrap64 ((rd x11_1 (ji23)) + (rd l0_3 x19_1))))) = w43 at n0_ n1_ n2_ n3_ n4_ ⊢
                have HO_11 := n0_
                have BK213 := n1_
                have BK214 := n2_
                have BK215 := n3_
                have HB := n4_
                clear n0_ n1_ n2_ n3_ n4_
                replace HO_11 := m_ (Kd.R_drew HO_11.out)
                replace BK213 := m_ (blk_drew BK213.out)
                replace BK214 := m_ (blk_drew BK214.out)
                replace BK215 := m_ (blk_drew BK215.out)
                replace HB := m_ (below_drew1 HB.out)
                have p224 : 0 ≤ ((ji29) : Int) := dax0
                have q224 : (ji29) < (y223.length : Int) := (by have h_ : ((ji29) : Int) < ((x11_1.length : Int) : Int) := dax0; first | (have e_ := (Kd.R_reads' HO_11.out).1; omega) | simpa only [Ny223.out, List.length_set] using h_)
                have ql224 : (((ji29) : Int) < ((x11_1.length : Int) : Int)) = True := eq_true dax0
                obtain ⟨ad224, e224, hx224_0⟩ := Kd.at_int (Kd.R_reads' HO_11.out).2.2 (ji29) p224 q224
                obtain rfl : (⟨go28, 0, none⟩ : Addr) = ad224 := (by injection e224)
                (first | simp only [add_plain] at hx224_0 | simp only [add_at] at hx224_0 | simp only [Addr.add, Nat.zero_add] at hx224_0 | skip)
                replace p224 := eq_true p224
                replace q224 := eq_true q224
                refine start_ (n := 11) (S := fun w' => w'.cell? ⟨gb213, 0, none⟩ = some (.int .i64 a0_0) ∧ w'.cell? ⟨gb213, 1, none⟩ = some (.int .i64 a0_1) ∧ w'.cell? ⟨gb213, 2, none⟩ = some (.int .i64 a0_2) ∧ w'.cell? ⟨gb213, 3, none⟩ = some (.slice (some ad222) l0_3.length c0_3) ∧ w'.cell? ⟨gb213, 4, none⟩ = some (.slice A0_4 l0_4.length c0_4) ∧ w'.cell? ⟨gb213, 5, none⟩ = some (.slice A0_5 l0_5.length c0_5) ∧ w'.cell? ⟨go28, ((ji29)).toNat, none⟩ = some (.int .i64 (rd y223 (ji29)))) (ds := [10]) (tf_ 0 11) (by kernel_rfl) rfl rfl ⟨(blk_cell BK213.out 0).trans rfl, (blk_cell BK213.out 1).trans rfl, (blk_cell BK213.out 2).trans rfl, (blk_cell BK213.out 3).trans rfl, (blk_cell BK213.out 4).trans rfl, (blk_cell BK213.out 5).trans rfl, hx224_0⟩ (fun hHeld => ?_); refine with_tabW spec_acSums.tab8 spec_acSums.bits8 (fun HT_ HW_ => ?_)
                generalize w43.drew = w44 at HO_11 BK213 BK214 BK215 HB HQ42 hx224_0 hHeld ⊢
                refine pv_ 0 52 (tf_ 1 11) HT_ ?_
                refine pv_ 1 53 (tf_ 2 11) HT_ ?_
                refine pv_ 2 54 (tf_ 3 11) HT_ ?_
                refine pv_ 3 55 (tf_ 4 11) HT_ ?_
                refine pv_ 6 58 #[true, true, true, true, false, false, true, false, false, false, false] HT_ ?_
                refine take_ (i := 4) (N := some 56) (v := ?_) (a' := ?_) #[true, true, true, true, true, false, true, false, false, false, false] rfl rfl (take_ofW HT_.out HW_.out (by kernel_rfl)) (fun _ _ _ h => h) (Or.inl ⟨by rfl, ?_⟩) hHeld ?_ ?_
                rotate_left
                ·rintro w' ⟨s0, s1, s2, s3, s4, s5, s6⟩
                 go_simp
                 with_reducible rfl
                rotate_left
                ·simp only [Act.put, List.setIfInBounds_toArray, List.set_cons_zero, List.set_cons_succ, i64_w, i32_w]
                 rfl
                refine take_ (i := 5) (N := some 57) (v := ?_) (a' := ?_) (tf_ 7 11) rfl rfl (take_ofW HT_.out HW_.out (by kernel_rfl)) (fun _ _ _ h => h) (Or.inl ⟨by rfl, ?_⟩) hHeld ?_ ?_
                rotate_left
                ·rintro w' ⟨s0, s1, s2, s3, s4, s5, s6⟩
                 go_simp
                 with_reducible rfl
                rotate_left
                ·simp only [Act.put, List.setIfInBounds_toArray, List.set_cons_zero, List.set_cons_succ, i64_w, i32_w]
                 rfl
                refine one_ (i := 7) (N := some 59) (tf_ 8 11) rfl rfl (one_of HT_.out (by kernel_rfl)) (by decide) (fun K hK => ?_)
                refine goes_ Try.func52 (by kernel_rfl) rfl #[.agg #[.int .i64 a0_0, .int .i64 a0_1, .int .i64 a0_2, .slice (some ad222) l0_3.length c0_3, .slice A0_4 l0_4.length c0_4, .slice A0_5 l0_5.length c0_5], .int .i64 x19_1] (by rfl) rfl rfl mpx0 ?_
                with_reducible refine (spec_moMetal.calls a0_0 a0_1 a0_2 _ _ l0_3 _ _ l0_4 _ _ l0_5 x19_1 t225 _ ?side1 ?side2 ?side3 ?side4 ?side5 ?side6 A32.out).mono ?_
                (case side1 => exact rCx0 (Kd.C_below HR0_3.out HB.out))
                (case side2 => exact HC0_3.out)
                (case side3 => exact rCx0 (Kd.C_below HR0_4.out HB.out))
                (case side4 => exact HC0_4.out)
                (case side5 => exact rCx0 (Kd.C_below HR0_5.out HB.out))
                (case side6 => exact HC0_5.out)
                rintro e w45 ⟨rfl, hb⟩
                have HS6_ := (hb.cell (World.block_lt_of_cell? _ _ (hHeld.2.2.2.2.2.2))).trans (hHeld.2.2.2.2.2.2)
                refine ⟨_, rfl, ?_⟩
                replace HO_11 := m_ (Kd.R_below (rRx0 HO_11.out) hb)
                replace BK213 := kbx0 BK213 hb
                replace BK214 := kbx0 BK214 hb
                replace BK215 := kbx0 BK215 hb
                replace HB := m_ (below_step (be3x0 HB.out GE213.out GE214.out GE215.out) hb)
                (try clear hb)
                (try clear hb2)
                (try clear hk)
                (try clear hi)
                have p33 : 0 ≤ ((ji29) : Int) := dax0
                have q33 : ((ji29) : Int) < ((x11_1.length : Int) : Int) := dax0
                obtain ⟨hx33_0, hf33_0⟩ := Kd.R_celln 0 HO_11.out ((ji29) : Int) p33 q33
                replace p33 := eq_true p33
                replace q33 := eq_true q33
                have HP46 := Kd.R_putn HO_11.out ((ji29) : Int) (wrap64 ((rd y223 (ji29)) + t225))
                rw [← Ny226.out] at HP46
                have HQ46 := m_ HP46
                clear HP46
                refine hK.out _ _ ⟨(blk_cell BK213.out 0).trans rfl, (blk_cell BK213.out 1).trans rfl, (blk_cell BK213.out 2).trans rfl, (blk_cell BK213.out 3).trans rfl, (blk_cell BK213.out 4).trans rfl, (blk_cell BK213.out 5).trans rfl, HS6_⟩ (fun hHeld => ?_)
                clear hK K
                refine norm_ (a' := ?_) ?_ ?_
                rotate_left
                ·show Act.put _ (some 59) _ = _
                 simp only [Act.put, List.setIfInBounds_toArray, List.set_cons_zero, List.set_cons_succ, i64_w, i32_w]
                 rfl
                refine pv_ 8 60 (tf_ 9 11) HT_ ?_
                refine pv_ 9 61 (tf_ 10 11) HT_ ?_
                refine last_ (i := 10) (N := none) (tf_ 11 11) rfl rfl (one_of HT_.out (by kernel_rfl)) (by decide) (fun K hK => ?_)
                refine skip_ (w1 := ?_) (by rfl) rfl ?_ ?_
                rotate_left
                ·go_simp
                 rfl
                refine hK.out _ _ ?_
                clear hK K
                refine done_ (done_of HT_.out (by kernel_rfl)) ?_
                try go_wp2
                go_roundg kj17
                case measure => have := HK1.out; have := HJ17.out; omega
                case rel => exact ⟨(y226), (wrap64 (x19_1 + 1)), frx0, H', ⟨by have := HK1.out; have := HJ17.out; omega⟩, ⟨rRx0 HQ46.out⟩, ⟨by (with_reducible repeat (first | refine blk_drewN ?_ _ | refine blk_drew ?_ | refine blk_alloc ?_ _)); refine blk_far ?_ (by have h_ := Kd.R_ne HO_11.out BK213.out (by decide); intro e_; exact h_ (by rw [e_]; rfl)) _; (with_reducible repeat (first | refine blk_drewN ?_ _ | refine blk_drew ?_ | refine blk_alloc ?_ _)); exact BK213.out⟩, ⟨by (with_reducible repeat (first | refine blk_drewN ?_ _ | refine blk_drew ?_ | refine blk_alloc ?_ _)); refine blk_far ?_ (by have h_ := Kd.R_ne HO_11.out BK214.out (by decide); intro e_; exact h_ (by rw [e_]; rfl)) _; (with_reducible repeat (first | refine blk_drewN ?_ _ | refine blk_drew ?_ | refine blk_alloc ?_ _)); exact BK214.out⟩, ⟨by (with_reducible repeat (first | refine blk_drewN ?_ _ | refine blk_drew ?_ | refine blk_alloc ?_ _)); refine blk_far ?_ (by have h_ := Kd.R_ne HO_11.out BK215.out (by decide); intro e_; exact h_ (by rw [e_]; rfl)) _; (with_reducible repeat (first | refine blk_drewN ?_ _ | refine blk_drew ?_ | refine blk_alloc ?_ _)); exact BK215.out⟩, ⟨be4x0 HB.out GB28.out GE213.out GE214.out GE215.out⟩⟩
               ·rw [if_neg c31] at H
                exact absurd H (by simp)
              ·rw [if_neg c30] at H
               exact absurd H (by simp)
             ·rw [if_neg c27] at H
              exact absurd H (by simp)
            ·rw [if_neg c26] at H
             exact absurd H (by simp)
           ·rw [if_neg c25] at H
            exact absurd H (by simp)
          ·rw [if_neg c24] at H
           exact absurd H (by simp)
      ·rw [if_neg c17] at H
       exact absurd H (by simp)
     ·rw [if_neg c16] at H
      exact absurd H (by simp)
    ·rw [if_neg c15] at H
     have c15b0 := decide_eq_false c15
     clear c15
     obtain rfl := Option.some.inj H
     go_wp2
     go_ret
     exact ⟨_, by first | rfl | (simp [errW_none, errW_some] <;> rfl) | (simp [*, errW_none, errW_some] <;> rfl), rRx0 HO_11.out, be3x0 HB.out GE213.out GE214.out GE215.out⟩
 ·rw [if_neg c6] at H
  exact absurd H (by simp)

/-! ### spec_DestinationSums: function 8 -/
def spec_DestinationSums.f (k : Nat) (a0_0 : Int) (a0_1 : Int) (a0_2 : Int) (l0_3 : List Int) (l0_4 : List Int) (l0_5 : List Int) (l1_0 : List (List Int)) (l1_1 : List Int) (l1_2 : List Int) (a1_3 : Int) (a1_4 : Int) (a1_5 : Int) (a1_6 : Int) (a1_7 : Int) (a2_0 : Int) (l2_1 : List Int) (a3 : Int) : Option (List Int × Bool) := (spec_acAsked.f k a0_0 a0_1 a0_2 l0_3 l0_4 l0_5 l1_0 l1_1 l1_2 a1_3 a1_4 a1_5 a1_6 a1_7 a2_0 l2_1 a3).bind fun t230 => (if t230 = true then ((spec_acSums.f k a0_0 a0_1 a0_2 l0_3 l0_4 l0_5 l1_0 l1_1 l1_2 a1_3 a1_4 a1_5 a1_6 a1_7 a2_0 l2_1 a3 (-1)).bind fun t231 => (some (t231, true))) else (some (([] : List Int), false)))
theorem spec_DestinationSums.mono : ∀ a0 a1 a2 a3 a4 a5 a6 a7 a8 a9 a10 a11 a12 a13 a14 a15 a16 k, LeO (spec_DestinationSums.f k a0 a1 a2 a3 a4 a5 a6 a7 a8 a9 a10 a11 a12 a13 a14 a15 a16) (spec_DestinationSums.f (k + 1) a0 a1 a2 a3 a4 a5 a6 a7 a8 a9 a10 a11 a12 a13 a14 a15 a16) := by
 intro a0 a1 a2 a3 a4 a5 a6 a7 a8 a9 a10 a11 a12 a13 a14 a15 a16 k
 unfold spec_DestinationSums.f
 repeat' first
   | (with_reducible exact spec_acAsked.mono _ _ _ _ _ _ _ _ _ _ _ _ _ _ _ _ _ _)
   | (with_reducible exact spec_acSums.mono _ _ _ _ _ _ _ _ _ _ _ _ _ _ _ _ _ _ _)
   | (with_reducible exact LeO.refl _)
   | (with_reducible exact LeO.none _)
   | (with_reducible refine LeO.ite ?_ ?_)
   | (with_reducible refine LeO.bind ?_ (fun _ => ?_))
   | exact spec_acAsked.mono _ _ _ _ _ _ _ _ _ _ _ _ _ _ _ _ _ _
   | exact spec_acSums.mono _ _ _ _ _ _ _ _ _ _ _ _ _ _ _ _ _ _ _
   | exact LeO.none _
   | refine LeO.ite ?_ ?_
   | refine LeO.bind ?_ (fun _ => ?_)
set_option maxHeartbeats 8000000 in
set_option maxRecDepth 100000 in
theorem spec_DestinationSums.calls (k : Nat) (a0_0 : Int) (a0_1 : Int) (a0_2 : Int) (A0_3 : Option Addr) (c0_3 : Nat) (l0_3 : List Int) (A0_4 : Option Addr) (c0_4 : Nat) (l0_4 : List Int) (A0_5 : Option Addr) (c0_5 : Nat) (l0_5 : List Int) (A1_0 : Option Addr) (c1_0 : Nat) (l1_0 : List (List Int)) (A1_1 : Option Addr) (c1_1 : Nat) (l1_1 : List Int) (A1_2 : Option Addr) (c1_2 : Nat) (l1_2 : List Int) (a1_3 : Int) (a1_4 : Int) (a1_5 : Int) (a1_6 : Int) (a1_7 : Int) (a2_0 : Int) (A2_1 : Option Addr) (c2_1 : Nat) (l2_1 : List Int) (a3 : Int) (r1 : List Int) (r2 : Bool) (w : World) (hr0_3 : Kd.C (Kd.int .i64) w A0_3 l0_3.length l0_3) (hc0_3 : l0_3.length ≤ c0_3) (hr0_4 : Kd.C (Kd.int .i64) w A0_4 l0_4.length l0_4) (hc0_4 : l0_4.length ≤ c0_4) (hr0_5 : Kd.C (Kd.int .i64) w A0_5 l0_5.length l0_5) (hc0_5 : l0_5.length ≤ c0_5) (hr1_0 : Kd.C (Kd.slice 3 (Kd.int .i64)) w A1_0 l1_0.length l1_0) (hc1_0 : l1_0.length ≤ c1_0) (hr1_1 : Kd.C (Kd.int .i64) w A1_1 l1_1.length l1_1) (hc1_1 : l1_1.length ≤ c1_1) (hr1_2 : Kd.C (Kd.int .i64) w A1_2 l1_2.length l1_2) (hc1_2 : l1_2.length ≤ c1_2) (hr2_1 : Kd.C (Kd.int .i64) w A2_1 l2_1.length l2_1) (hc2_1 : l2_1.length ≤ c2_1) (h : spec_DestinationSums.f k a0_0 a0_1 a0_2 l0_3 l0_4 l0_5 l1_0 l1_1 l1_2 a1_3 a1_4 a1_5 a1_6 a1_7 a2_0 l2_1 a3 = some (r1, r2)) :
  Calls Try.prog 8 #[.agg #[.int .i64 a0_0, .int .i64 a0_1, .int .i64 a0_2, .slice A0_3 l0_3.length c0_3, .slice A0_4 l0_4.length c0_4, .slice A0_5 l0_5.length c0_5], .agg #[.slice A1_0 l1_0.length c1_0, .slice A1_1 l1_1.length c1_1, .slice A1_2 l1_2.length c1_2, .int .i64 a1_3, .int .i64 a1_4, .int .i64 a1_5, .int .i64 a1_6, .int .i64 a1_7], .agg #[.int .i64 a2_0, .slice A2_1 l2_1.length c2_1], .int .i64 a3] w fun e w' => ∃ v0_ : Value, e = .returned (.tuple #[v0_, .bool r2]) ∧ Kd.R (Kd.int .i64) 3 w' w.heap.size (fun _ => True) v0_ r1 ∧ Below w.heap.size w w' := by
 have hu41 := Try.underlying41
 have hu45 := Try.underlying45
 have hu47 := Try.underlying47
 have HR0_3 := m_ hr0_3
 have HC0_3 := m_ hc0_3
 clear hr0_3 hc0_3
 have HR0_4 := m_ hr0_4
 have HC0_4 := m_ hc0_4
 clear hr0_4 hc0_4
 have HR0_5 := m_ hr0_5
 have HC0_5 := m_ hc0_5
 clear hr0_5 hc0_5
 have HR1_0 := m_ hr1_0
 have HC1_0 := m_ hc1_0
 clear hr1_0 hc1_0
 have HR1_1 := m_ hr1_1
 have HC1_1 := m_ hc1_1
 clear hr1_1 hc1_1
 have HR1_2 := m_ hr1_2
 have HC1_2 := m_ hc1_2
 clear hr1_2 hc1_2
 have HR2_1 := m_ hr2_1
 have HC2_1 := m_ hc2_1
 clear hr2_1 hc2_1
 have HB := m_ (Below.refl w.heap.size w)
 have H : ((spec_acAsked.f k a0_0 a0_1 a0_2 l0_3 l0_4 l0_5 l1_0 l1_1 l1_2 a1_3 a1_4 a1_5 a1_6 a1_7 a2_0 l2_1 a3).bind fun t230 => (if t230 = true then ((spec_acSums.f k a0_0 a0_1 a0_2 l0_3 l0_4 l0_5 l1_0 l1_1 l1_2 a1_3 a1_4 a1_5 a1_6 a1_7 a2_0 l2_1 a3 (-1)).bind fun t231 => (some (t231, true))) else (some (([] : List Int), false)))) = some (r1, r2) := h
 clear h
 replace H := Option.bind_eq_some_iff.mp H
 obtain ⟨t230, A50, H⟩ := H
 have A5 := m_ A50
 clear A50
 by_cases c6 : t230 = true
 ·subst c6
  have H1 : ((spec_acSums.f k a0_0 a0_1 a0_2 l0_3 l0_4 l0_5 l1_0 l1_1 l1_2 a1_3 a1_4 a1_5 a1_6 a1_7 a2_0 l2_1 a3 (-1)).bind fun t231 => (some (t231, true))) = some (r1, r2) := by rw [if_pos rfl] at H; exact H
  clear H
  have H := H1
  clear H1
  replace H := Option.bind_eq_some_iff.mp H
  obtain ⟨t231, A70, H⟩ := H
  have A7 := m_ A70
  clear A70
  simp only [Option.some.injEq, Prod.mk.injEq] at H
  obtain ⟨rfl, rfl⟩ := H
  go_enter Try.func8, Try.ntmps8
  go_wp2_with (first | ((with_reducible refine gate_dst (N := 4) rfl ?_); refine bxx0 4 41 #[.int .i64 a0_0, .int .i64 a0_1, .int .i64 a0_2, .slice A0_3 l0_3.length c0_3, .slice A0_4 l0_4.length c0_4, .slice A0_5 l0_5.length c0_5] (be0x0 HB.out) (below_size (be0x0 HB.out)) ?_; clear HB; intro gb227 w8 BK227 HB GE227 hb hg; clear hb hg) | ((with_reducible refine gate_dst (N := 5) rfl ?_); refine bxx0 5 45 #[.slice A1_0 l1_0.length c1_0, .slice A1_1 l1_1.length c1_1, .slice A1_2 l1_2.length c1_2, .int .i64 a1_3, .int .i64 a1_4, .int .i64 a1_5, .int .i64 a1_6, .int .i64 a1_7] (be1x0 HB.out GE227.out) (below_size (be1x0 HB.out GE227.out)) ?_; clear HB; intro gb228 w9 BK228 HB GE228 hb hg; have NB227_228 := nbx0 BK227 hg; have NB228_227 := ncx0 BK227 hg; replace BK227 := kbx0 BK227 hb; clear hb hg) | ((with_reducible refine gate_dst (N := 6) rfl ?_); refine bxx0 6 47 #[.int .i64 a2_0, .slice A2_1 l2_1.length c2_1] (be2x0 HB.out GE227.out GE228.out) (below_size (be2x0 HB.out GE227.out GE228.out)) ?_; clear HB; intro gb229 w10 BK229 HB GE229 hb hg; have NB227_229 := nbx0 BK227 hg; have NB229_227 := ncx0 BK227 hg; replace BK227 := kbx0 BK227 hb; have NB228_229 := nbx0 BK228 hg; have NB229_228 := ncx0 BK228 hg; replace BK228 := kbx0 BK228 hb; clear hb hg; have hnb11 := NB227_228.out; have hnc11 := NB228_227.out; have hnb12 := NB227_229.out; have hnc12 := NB229_227.out; obtain ⟨hcz13_0, hcz13_1, hcz13_2, hcz13_3, hcz13_4, hcz13_5, hfz13_0, hfz13_1, hfz13_2, hfz13_3, hfz13_4, hfz13_5⟩ := cf6x0 BK227.out; have hnb14 := NB228_229.out; have hnc14 := NB229_228.out; obtain ⟨hcz15_0, hcz15_1, hcz15_2, hcz15_3, hcz15_4, hcz15_5, hcz15_6, hcz15_7, hfz15_0, hfz15_1, hfz15_2, hfz15_3, hfz15_4, hfz15_5, hfz15_6, hfz15_7⟩ := cf8x0 BK228.out; obtain ⟨hcz16_0, hcz16_1, hfz16_0, hfz16_1⟩ := cf2x0 BK229.out) | ((with_reducible refine gate_callee (f := 34) rfl ?_); refine gLx0 (some 14) Try.func34 #[.agg #[.int .i64 a0_0, .int .i64 a0_1, .int .i64 a0_2, .slice A0_3 l0_3.length c0_3, .slice A0_4 l0_4.length c0_4, .slice A0_5 l0_5.length c0_5], .agg #[.slice A1_0 l1_0.length c1_0, .slice A1_1 l1_1.length c1_1, .slice A1_2 l1_2.length c1_2, .int .i64 a1_3, .int .i64 a1_4, .int .i64 a1_5, .int .i64 a1_6, .int .i64 a1_7], .agg #[.int .i64 a2_0, .slice A2_1 l2_1.length c2_1], .int .i64 a3] ?_; (with_reducible refine (spec_acAsked.calls k a0_0 a0_1 a0_2 _ _ l0_3 _ _ l0_4 _ _ l0_5 _ _ l1_0 _ _ l1_1 _ _ l1_2 a1_3 a1_4 a1_5 a1_6 a1_7 a2_0 _ _ l2_1 a3 true _ ?side1 ?side2 ?side3 ?side4 ?side5 ?side6 ?side7 ?side8 ?side9 ?side10 ?side11 ?side12 ?side13 ?side14 A5.out).mono ?_); (case side1 => exact rCx0 (Kd.C_below HR0_3.out HB.out)); (case side2 => exact HC0_3.out); (case side3 => exact rCx0 (Kd.C_below HR0_4.out HB.out)); (case side4 => exact HC0_4.out); (case side5 => exact rCx0 (Kd.C_below HR0_5.out HB.out)); (case side6 => exact HC0_5.out); (case side7 => exact rCx0 (Kd.C_below HR1_0.out HB.out)); (case side8 => exact HC1_0.out); (case side9 => exact rCx0 (Kd.C_below HR1_1.out HB.out)); (case side10 => exact HC1_1.out); (case side11 => exact rCx0 (Kd.C_below HR1_2.out HB.out)); (case side12 => exact HC1_2.out); (case side13 => exact rCx0 (Kd.C_below HR2_1.out HB.out)); (case side14 => exact HC2_1.out); rintro e w17 ⟨rfl, hb⟩; refine ⟨_, rfl, ?_⟩; replace BK227 := kbx0 BK227 hb; replace BK228 := kbx0 BK228 hb; replace BK229 := kbx0 BK229 hb; replace HB := m_ (below_step (be3x0 HB.out GE227.out GE228.out GE229.out) hb); (try clear hb); (try clear hb2); (try clear hk); (try clear hi); obtain ⟨hcz18_0, hcz18_1, hcz18_2, hcz18_3, hcz18_4, hcz18_5, hfz18_0, hfz18_1, hfz18_2, hfz18_3, hfz18_4, hfz18_5⟩ := cf6x0 BK227.out; obtain ⟨hcz19_0, hcz19_1, hcz19_2, hcz19_3, hcz19_4, hcz19_5, hcz19_6, hcz19_7, hfz19_0, hfz19_1, hfz19_2, hfz19_3, hfz19_4, hfz19_5, hfz19_6, hfz19_7⟩ := cf8x0 BK228.out; obtain ⟨hcz20_0, hcz20_1, hfz20_0, hfz20_1⟩ := cf2x0 BK229.out) | ((with_reducible refine gate_callee (f := 35) rfl ?_); refine gLx0 (some 20) Try.func35 #[.agg #[.int .i64 a0_0, .int .i64 a0_1, .int .i64 a0_2, .slice A0_3 l0_3.length c0_3, .slice A0_4 l0_4.length c0_4, .slice A0_5 l0_5.length c0_5], .agg #[.slice A1_0 l1_0.length c1_0, .slice A1_1 l1_1.length c1_1, .slice A1_2 l1_2.length c1_2, .int .i64 a1_3, .int .i64 a1_4, .int .i64 a1_5, .int .i64 a1_6, .int .i64 a1_7], .agg #[.int .i64 a2_0, .slice A2_1 l2_1.length c2_1], .int .i64 a3, .int .i64 (-1)] ?_; (with_reducible refine (spec_acSums.calls k a0_0 a0_1 a0_2 _ _ l0_3 _ _ l0_4 _ _ l0_5 _ _ l1_0 _ _ l1_1 _ _ l1_2 a1_3 a1_4 a1_5 a1_6 a1_7 a2_0 _ _ l2_1 a3 (-1) t231 _ ?side1 ?side2 ?side3 ?side4 ?side5 ?side6 ?side7 ?side8 ?side9 ?side10 ?side11 ?side12 ?side13 ?side14 A7.out).mono ?_); (case side1 => exact rCx0 (Kd.C_below HR0_3.out HB.out)); (case side2 => exact HC0_3.out); (case side3 => exact rCx0 (Kd.C_below HR0_4.out HB.out)); (case side4 => exact HC0_4.out); (case side5 => exact rCx0 (Kd.C_below HR0_5.out HB.out)); (case side6 => exact HC0_5.out); (case side7 => exact rCx0 (Kd.C_below HR1_0.out HB.out)); (case side8 => exact HC1_0.out); (case side9 => exact rCx0 (Kd.C_below HR1_1.out HB.out)); (case side10 => exact HC1_1.out); (case side11 => exact rCx0 (Kd.C_below HR1_2.out HB.out)); (case side12 => exact HC1_2.out); (case side13 => exact rCx0 (Kd.C_below HR2_1.out HB.out)); (case side14 => exact HC2_1.out); rintro e w21 ⟨v232, rfl, ho0, hb⟩; refine ⟨_, rfl, ?_⟩; have HO233 := m_ (Kd.R_lower ho0 (below_size (be3x0 HB.out GE227.out GE228.out GE229.out))); replace BK227 := kbx0 BK227 hb; replace BK228 := kbx0 BK228 hb; replace BK229 := kbx0 BK229 hb; replace HB := m_ (below_step (be3x0 HB.out GE227.out GE228.out GE229.out) hb); (try clear hb); (try clear hb2); (try clear hk); (try clear hi); (try clear ho0)))
  go_ret2
  exact ⟨_, by first | rfl | (simp [errW_none, errW_some] <;> rfl) | (simp [*, errW_none, errW_some] <;> rfl), rRx0 HO233.out, be3x0 HB.out GE227.out GE228.out GE229.out⟩
 ·replace c6 := Bool.eq_false_iff.mpr c6
  subst c6
  have H1 : (some (([] : List Int), false)) = some (r1, r2) := by rw [if_neg (show ¬ (false = true) by decide)] at H; exact H
  clear H
  have H := H1
  clear H1
  simp only [Option.some.injEq, Prod.mk.injEq] at H
  obtain ⟨rfl, rfl⟩ := H
  go_enter Try.func8, Try.ntmps8
  go_wp2_with (first | ((with_reducible refine gate_dst (N := 4) rfl ?_); refine bxx0 4 41 #[.int .i64 a0_0, .int .i64 a0_1, .int .i64 a0_2, .slice A0_3 l0_3.length c0_3, .slice A0_4 l0_4.length c0_4, .slice A0_5 l0_5.length c0_5] (be0x0 HB.out) (below_size (be0x0 HB.out)) ?_; clear HB; intro gb227 w22 BK227 HB GE227 hb hg; clear hb hg) | ((with_reducible refine gate_dst (N := 5) rfl ?_); refine bxx0 5 45 #[.slice A1_0 l1_0.length c1_0, .slice A1_1 l1_1.length c1_1, .slice A1_2 l1_2.length c1_2, .int .i64 a1_3, .int .i64 a1_4, .int .i64 a1_5, .int .i64 a1_6, .int .i64 a1_7] (be1x0 HB.out GE227.out) (below_size (be1x0 HB.out GE227.out)) ?_; clear HB; intro gb228 w23 BK228 HB GE228 hb hg; have NB227_228 := nbx0 BK227 hg; have NB228_227 := ncx0 BK227 hg; replace BK227 := kbx0 BK227 hb; clear hb hg) | ((with_reducible refine gate_dst (N := 6) rfl ?_); refine bxx0 6 47 #[.int .i64 a2_0, .slice A2_1 l2_1.length c2_1] (be2x0 HB.out GE227.out GE228.out) (below_size (be2x0 HB.out GE227.out GE228.out)) ?_; clear HB; intro gb229 w24 BK229 HB GE229 hb hg; have NB227_229 := nbx0 BK227 hg; have NB229_227 := ncx0 BK227 hg; replace BK227 := kbx0 BK227 hb; have NB228_229 := nbx0 BK228 hg; have NB229_228 := ncx0 BK228 hg; replace BK228 := kbx0 BK228 hb; clear hb hg; have hnb25 := NB227_228.out; have hnc25 := NB228_227.out; have hnb26 := NB227_229.out; have hnc26 := NB229_227.out; obtain ⟨hcz27_0, hcz27_1, hcz27_2, hcz27_3, hcz27_4, hcz27_5, hfz27_0, hfz27_1, hfz27_2, hfz27_3, hfz27_4, hfz27_5⟩ := cf6x0 BK227.out; have hnb28 := NB228_229.out; have hnc28 := NB229_228.out; obtain ⟨hcz29_0, hcz29_1, hcz29_2, hcz29_3, hcz29_4, hcz29_5, hcz29_6, hcz29_7, hfz29_0, hfz29_1, hfz29_2, hfz29_3, hfz29_4, hfz29_5, hfz29_6, hfz29_7⟩ := cf8x0 BK228.out; obtain ⟨hcz30_0, hcz30_1, hfz30_0, hfz30_1⟩ := cf2x0 BK229.out) | ((with_reducible refine gate_callee (f := 34) rfl ?_); refine gLx0 (some 14) Try.func34 #[.agg #[.int .i64 a0_0, .int .i64 a0_1, .int .i64 a0_2, .slice A0_3 l0_3.length c0_3, .slice A0_4 l0_4.length c0_4, .slice A0_5 l0_5.length c0_5], .agg #[.slice A1_0 l1_0.length c1_0, .slice A1_1 l1_1.length c1_1, .slice A1_2 l1_2.length c1_2, .int .i64 a1_3, .int .i64 a1_4, .int .i64 a1_5, .int .i64 a1_6, .int .i64 a1_7], .agg #[.int .i64 a2_0, .slice A2_1 l2_1.length c2_1], .int .i64 a3] ?_; (with_reducible refine (spec_acAsked.calls k a0_0 a0_1 a0_2 _ _ l0_3 _ _ l0_4 _ _ l0_5 _ _ l1_0 _ _ l1_1 _ _ l1_2 a1_3 a1_4 a1_5 a1_6 a1_7 a2_0 _ _ l2_1 a3 false _ ?side1 ?side2 ?side3 ?side4 ?side5 ?side6 ?side7 ?side8 ?side9 ?side10 ?side11 ?side12 ?side13 ?side14 A5.out).mono ?_); (case side1 => exact rCx0 (Kd.C_below HR0_3.out HB.out)); (case side2 => exact HC0_3.out); (case side3 => exact rCx0 (Kd.C_below HR0_4.out HB.out)); (case side4 => exact HC0_4.out); (case side5 => exact rCx0 (Kd.C_below HR0_5.out HB.out)); (case side6 => exact HC0_5.out); (case side7 => exact rCx0 (Kd.C_below HR1_0.out HB.out)); (case side8 => exact HC1_0.out); (case side9 => exact rCx0 (Kd.C_below HR1_1.out HB.out)); (case side10 => exact HC1_1.out); (case side11 => exact rCx0 (Kd.C_below HR1_2.out HB.out)); (case side12 => exact HC1_2.out); (case side13 => exact rCx0 (Kd.C_below HR2_1.out HB.out)); (case side14 => exact HC2_1.out); rintro e w31 ⟨rfl, hb⟩; refine ⟨_, rfl, ?_⟩; replace BK227 := kbx0 BK227 hb; replace BK228 := kbx0 BK228 hb; replace BK229 := kbx0 BK229 hb; replace HB := m_ (below_step (be3x0 HB.out GE227.out GE228.out GE229.out) hb); (try clear hb); (try clear hb2); (try clear hk); (try clear hi)))
  go_ret2
  exact ⟨_, by first | rfl | (simp [errW_none, errW_some] <;> rfl) | (simp [*, errW_none, errW_some] <;> rfl), by first | exact Kd.R_nil _ _ _ _ _ | exact Kd.N_nil _ _ _ _ _ | exact Kd.V_nil _ _ _ _ _ | exact Kd.Q_nil _ _ _ _ _ | exact Kd.S_nil _ _ _ _ _, be3x0 HB.out GE227.out GE228.out GE229.out⟩

/-! ### laws_toGrid: function 36 -/
def laws_toGrid.f (a0_0 : Int) (a0_1 : Int) (a0_2 : Int) : Option (Int × Int × Int) := some (a0_0, a0_1, a0_2)
set_option maxHeartbeats 8000000 in
set_option maxRecDepth 100000 in
theorem laws_toGrid.calls (a0_0 : Int) (a0_1 : Int) (a0_2 : Int) (r1 : Int) (r2 : Int) (r3 : Int) (w : World) (h : laws_toGrid.f a0_0 a0_1 a0_2 = some (r1, r2, r3)) :
  Calls Try.prog 36 #[.agg #[.int .i64 a0_0, .int .i64 a0_1, .int .i64 a0_2]] w fun e w' => e = .returned (.agg #[.int .i64 r1, .int .i64 r2, .int .i64 r3]) ∧ Below w.heap.size w w' := by
 have hu23 := Try.underlying23
 have hu39 := Try.underlying39
 have HB := m_ (Below.refl w.heap.size w)
 have H : (some (a0_0, a0_1, a0_2)) = some (r1, r2, r3) := h
 clear h
 simp only [Option.some.injEq, Prod.mk.injEq] at H
 obtain ⟨rfl, rfl, rfl⟩ := H
 go_enter Try.func36, Try.ntmps36
 go_wp2_with (first | ((with_reducible refine gate_dst (N := 1) rfl ?_); refine bxx0 1 23 #[.int .i64 a0_0, .int .i64 a0_1, .int .i64 a0_2] (be0x0 HB.out) (below_size (be0x0 HB.out)) ?_; clear HB; intro gb234 w2 BK234 HB GE234 hb hg; clear hb hg) | ((with_reducible refine gate_dst (N := 2) rfl ?_); refine bxx0 2 39 #[.int .i64 0, .int .i64 0, .int .i64 0] (be1x0 HB.out GE234.out) (below_size (be1x0 HB.out GE234.out)) ?_; clear HB; intro gb235 w3 BK235 HB GE235 hb hg; have NB234_235 := nbx0 BK234 hg; have NB235_234 := ncx0 BK234 hg; replace BK234 := kbx0 BK234 hb; clear hb hg) | ((with_reducible refine gate_dst (N := 3) rfl ?_); refine bxx0 3 39 #[.int .i64 0, .int .i64 0, .int .i64 0] (be2x0 HB.out GE234.out GE235.out) (below_size (be2x0 HB.out GE234.out GE235.out)) ?_; clear HB; intro gb236 w4 BK236 HB GE236 hb hg; have NB234_236 := nbx0 BK234 hg; have NB236_234 := ncx0 BK234 hg; replace BK234 := kbx0 BK234 hb; have NB235_236 := nbx0 BK235 hg; have NB236_235 := ncx0 BK235 hg; replace BK235 := kbx0 BK235 hb; clear hb hg; have hnb5 := NB234_235.out; have hnc5 := NB235_234.out; have hnb6 := NB234_236.out; have hnc6 := NB236_234.out; obtain ⟨hcz7_0, hcz7_1, hcz7_2, hfz7_0, hfz7_1, hfz7_2⟩ := cf3x0 BK234.out; have hnb8 := NB236_235.out; have hnc8 := NB235_236.out; obtain ⟨hcz9_0, hcz9_1, hcz9_2, hfz9_0, hfz9_1, hfz9_2⟩ := cf3x0 BK236.out; obtain ⟨hcz10_0, hcz10_1, hcz10_2, hfz10_0, hfz10_1, hfz10_2⟩ := cf3x0 BK235.out))
 refine bodyPost_ret (results_cell_row rfl _ _ gb235 39 #[.int .i64 a0_0, .int .i64 a0_1, .int .i64 a0_2] (0, 0) _ rfl (by (with_reducible repeat (first | refine blk_drewN ?_ _ | refine blk_drew ?_ | refine blk_alloc ?_ _)); refine blk_put (cs := #[.int .i64 a0_0, .int .i64 a0_1, .int .i64 0]) ?_ 2 _ rfl; (with_reducible repeat (first | refine blk_drewN ?_ _ | refine blk_drew ?_ | refine blk_alloc ?_ _)); refine blk_put (cs := #[.int .i64 a0_0, .int .i64 0, .int .i64 0]) ?_ 1 _ rfl; (with_reducible repeat (first | refine blk_drewN ?_ _ | refine blk_drew ?_ | refine blk_alloc ?_ _)); refine blk_put (cs := #[.int .i64 0, .int .i64 0, .int .i64 0]) ?_ 0 _ rfl; (with_reducible repeat (first | refine blk_drewN ?_ _ | refine blk_drew ?_ | refine blk_alloc ?_ _)); refine blk_far ?_ NB235_236.out _; (with_reducible repeat (first | refine blk_drewN ?_ _ | refine blk_drew ?_ | refine blk_alloc ?_ _)); refine blk_far ?_ NB235_236.out _; (with_reducible repeat (first | refine blk_drewN ?_ _ | refine blk_drew ?_ | refine blk_alloc ?_ _)); refine blk_far ?_ NB235_236.out _; (with_reducible repeat (first | refine blk_drewN ?_ _ | refine blk_drew ?_ | refine blk_alloc ?_ _)); exact BK235.out) Try.underlying39 rfl (by kernel_rfl)) rfl ?_
 exact ⟨by first | rfl | (simp [errW_none, errW_some] <;> rfl) | (simp [*, errW_none, errW_some] <;> rfl), be3x0 HB.out GE234.out GE235.out GE236.out⟩

end Go.Proofs.Ytloddihakhgcdaa.PFnExactDestinationSums
