/- This text is this session's own, not the print's: programs (wip/squeeze.py and others) made it out of what print.sh, or wip/ownprint.py, had written (BYTES set higher), its facts said by short words. -/
import Derived.Test.YtloddihakhgcdaaPFnExactDestinationSumsx0
import Derived.Test.YtloddihakhgcdaaPFnExactDestinationSumsx10
import Derived.Test.YtloddihakhgcdaaPFnExactDestinationSumsx11
import Derived.Test.YtloddihakhgcdaaPFnExactDestinationSumsx13
import Derived.Test.YtloddihakhgcdaaPFnExactDestinationSumsrx0
import Derived.Test.YtloddihakhgcdaaPFnExactDestinationSumswx0
namespace Go.Proofs.Ytloddihakhgcdaa.PFnExactDestinationSums
open Go.RowKit Go.Proofs.YtloddihakhgcdaaW.PrintWords Go.Proofs.YtloddihakhgcdaaW.PrintLast Go.Proofs.YtloddihakhgcdaaW.PrintMore
attribute [local go_sem] max2_int min2_int max_two min_two max_three min_three max_four min_four   -- for this text's walks alone
set_option linter.unusedVariables false
set_option linter.unusedSimpArgs false

/-! ### impl_DestinationSums: function 12 -/
mutual
def impl_DestinationSums.j0 : Nat → Int → Bool → Int → Int → Int → List Int → List Int → List Int → List (List Int) → List Int → List Int → Int → Int → Int → Int → Int → Int → List Int → Option (List Int × Bool)
 | 0, _, _, _, _, _, _, _, _, _, _, _, _, _, _, _, _, _, _ => none
 | k + 1, x3, x34, x364000, x364001, x364002, x364003, x364004, x364005, x365000, x365001, x365002, x365003, x365004, x365005, x365006, x365007, x366000, x366001 => if x34 = true then (some (([] : List Int), false)) else (if 6 ≤ 35184372088832 then (impl_DestinationSums.l0 k x3 (List.replicate 6 0) x366001 (x366001.length : Int) 0 x364000 x364001 x364002 x364003 x364004 x364005 x365000 x365001 x365002 x365003 x365004 x365005 x365006 x365007) else (none))
def impl_DestinationSums.l0 : Nat → Int → List Int → List Int → Int → Int → Int → Int → Int → List Int → List Int → List Int → List (List Int) → List Int → List Int → Int → Int → Int → Int → Int → Option (List Int × Bool)
 | 0, _, _, _, _, _, _, _, _, _, _, _, _, _, _, _, _, _, _, _ => none
 | k + 1, x3, x10, x37, x38, x39, x364000, x364001, x364002, x364003, x364004, x364005, x365000, x365001, x365002, x365003, x365004, x365005, x365006, x365007 => if x39 < x38 then (if 0 ≤ x39 then (if x39 < (x37.length : Int) then (if (rd x37 x39) ≥ 0 then ((impl_destinationOf.f x364000 x364001 x364002 x364003 x364004 x364005 x365000 x365001 x365002 x365003 x365004 x365005 x365006 x365007 x39 x3).bind fun t374 => (if 0 ≤ (wrap64 (2 * t374)) then (if (wrap64 (2 * t374)) < (x10.length : Int) then (if x39 < (x364003.length : Int) then ((some (x10.set ((wrap64 (2 * t374)) : Int).toNat (wrap64 ((rd x10 (wrap64 (2 * t374))) + (rd x364003 x39))) : List Int)).bind fun y377 => (if 0 ≤ (wrap64 ((wrap64 (2 * t374)) + 1)) then (if (wrap64 ((wrap64 (2 * t374)) + 1)) < (x10.length : Int) then (if x39 < (x364004.length : Int) then (impl_DestinationSums.l0 k x3 (y377.set ((wrap64 ((wrap64 (2 * t374)) + 1)) : Int).toNat (wrap64 ((rd y377 (wrap64 ((wrap64 (2 * t374)) + 1))) + (wrap64 ((rd x364003 x39) * (rd x364004 x39)))))) x37 x38 (wrap64 (x39 + 1)) x364000 x364001 x364002 x364003 x364004 x364005 x365000 x365001 x365002 x365003 x365004 x365005 x365006 x365007) else (none)) else (none)) else (none))) else (none)) else (none)) else (none))) else (impl_DestinationSums.l0 k x3 x10 x37 x38 (wrap64 (x39 + 1)) x364000 x364001 x364002 x364003 x364004 x364005 x365000 x365001 x365002 x365003 x365004 x365005 x365006 x365007)) else (none)) else (none)) else (some (x10, true))
end
def impl_DestinationSums.f (k : Nat) (a0_0 : Int) (a0_1 : Int) (a0_2 : Int) (l0_3 : List Int) (l0_4 : List Int) (l0_5 : List Int) (l1_0 : List (List Int)) (l1_1 : List Int) (l1_2 : List Int) (a1_3 : Int) (a1_4 : Int) (a1_5 : Int) (a1_6 : Int) (a1_7 : Int) (a2_0 : Int) (l2_1 : List Int) (a3 : Int) : Option (List Int × Bool) := (impl_areOneMine.f k a0_0 a0_1 a0_2 l0_3 l0_4 l0_5 l1_0 l1_1 l1_2 a1_3 a1_4 a1_5 a1_6 a1_7).bind fun t366 => (if t366 = true then ((impl_isPlan.f k l1_0 l1_1 l1_2 a1_3 a1_4 a1_5 a1_6 a1_7 a2_0 l2_1).bind fun t367 => (if t367 = true then ((impl_isFeasible.f k l1_0 l1_1 l1_2 a1_3 a1_4 a1_5 a1_6 a1_7 a2_0 l2_1).bind fun t368 => (if t368 = true then ((impl_isCutoff.f a3).bind fun t369 => (impl_DestinationSums.j0 k a3 (!t369) a0_0 a0_1 a0_2 l0_3 l0_4 l0_5 l1_0 l1_1 l1_2 a1_3 a1_4 a1_5 a1_6 a1_7 a2_0 l2_1)) else (impl_DestinationSums.j0 k a3 true a0_0 a0_1 a0_2 l0_3 l0_4 l0_5 l1_0 l1_1 l1_2 a1_3 a1_4 a1_5 a1_6 a1_7 a2_0 l2_1))) else (impl_DestinationSums.j0 k a3 true a0_0 a0_1 a0_2 l0_3 l0_4 l0_5 l1_0 l1_1 l1_2 a1_3 a1_4 a1_5 a1_6 a1_7 a2_0 l2_1))) else (impl_DestinationSums.j0 k a3 true a0_0 a0_1 a0_2 l0_3 l0_4 l0_5 l1_0 l1_1 l1_2 a1_3 a1_4 a1_5 a1_6 a1_7 a2_0 l2_1))
theorem impl_DestinationSums.mono_l : ∀ k, (∀ y0 y1 y2 y3 y4 y5 y6 y7 y8 y9 y10 y11 y12 y13 y14 y15 y16 y17, LeO (impl_DestinationSums.j0 k y0 y1 y2 y3 y4 y5 y6 y7 y8 y9 y10 y11 y12 y13 y14 y15 y16 y17) (impl_DestinationSums.j0 (k + 1) y0 y1 y2 y3 y4 y5 y6 y7 y8 y9 y10 y11 y12 y13 y14 y15 y16 y17)) ∧ (∀ y0 y1 y2 y3 y4 y5 y6 y7 y8 y9 y10 y11 y12 y13 y14 y15 y16 y17 y18, LeO (impl_DestinationSums.l0 k y0 y1 y2 y3 y4 y5 y6 y7 y8 y9 y10 y11 y12 y13 y14 y15 y16 y17 y18) (impl_DestinationSums.l0 (k + 1) y0 y1 y2 y3 y4 y5 y6 y7 y8 y9 y10 y11 y12 y13 y14 y15 y16 y17 y18))
 | 0 => ⟨fun _ _ _ _ _ _ _ _ _ _ _ _ _ _ _ _ _ _ r h => by simp [impl_DestinationSums.j0] at h, fun _ _ _ _ _ _ _ _ _ _ _ _ _ _ _ _ _ _ _ r h => by simp [impl_DestinationSums.l0] at h⟩
 | k + 1 => by
  obtain ⟨ih0, ih1⟩ := impl_DestinationSums.mono_l k
  refine ⟨?_, ?_⟩
  ·intro y0 y1 y2 y3 y4 y5 y6 y7 y8 y9 y10 y11 y12 y13 y14 y15 y16 y17
   unfold impl_DestinationSums.j0
   repeat' first
   | (with_reducible exact ih0 _ _ _ _ _ _ _ _ _ _ _ _ _ _ _ _ _ _)
   | (with_reducible exact ih1 _ _ _ _ _ _ _ _ _ _ _ _ _ _ _ _ _ _ _)
   | (with_reducible exact impl_areOneMine.mono _ _ _ _ _ _ _ _ _ _ _ _ _ _ _)
   | (with_reducible exact impl_isFeasible.mono _ _ _ _ _ _ _ _ _ _ _)
   | (with_reducible exact impl_isPlan.mono _ _ _ _ _ _ _ _ _ _ _)
   | (with_reducible exact LeO.refl _)
   | (with_reducible exact LeO.none _)
   | (with_reducible refine LeO.ite ?_ ?_)
   | (with_reducible refine LeO.bind ?_ (fun _ => ?_))
   | exact ih0 _ _ _ _ _ _ _ _ _ _ _ _ _ _ _ _ _ _
   | exact ih1 _ _ _ _ _ _ _ _ _ _ _ _ _ _ _ _ _ _ _
   | exact impl_areOneMine.mono _ _ _ _ _ _ _ _ _ _ _ _ _ _ _
   | exact impl_isFeasible.mono _ _ _ _ _ _ _ _ _ _ _
   | exact impl_isPlan.mono _ _ _ _ _ _ _ _ _ _ _
   | exact LeO.none _
   | refine LeO.ite ?_ ?_
   | refine LeO.bind ?_ (fun _ => ?_)
  ·intro y0 y1 y2 y3 y4 y5 y6 y7 y8 y9 y10 y11 y12 y13 y14 y15 y16 y17 y18
   unfold impl_DestinationSums.l0
   repeat' first
   | (with_reducible exact ih0 _ _ _ _ _ _ _ _ _ _ _ _ _ _ _ _ _ _)
   | (with_reducible exact ih1 _ _ _ _ _ _ _ _ _ _ _ _ _ _ _ _ _ _ _)
   | (with_reducible exact impl_areOneMine.mono _ _ _ _ _ _ _ _ _ _ _ _ _ _ _)
   | (with_reducible exact impl_isFeasible.mono _ _ _ _ _ _ _ _ _ _ _)
   | (with_reducible exact impl_isPlan.mono _ _ _ _ _ _ _ _ _ _ _)
   | (with_reducible exact LeO.refl _)
   | (with_reducible exact LeO.none _)
   | (with_reducible refine LeO.ite ?_ ?_)
   | (with_reducible refine LeO.bind ?_ (fun _ => ?_))
   | exact ih0 _ _ _ _ _ _ _ _ _ _ _ _ _ _ _ _ _ _
   | exact ih1 _ _ _ _ _ _ _ _ _ _ _ _ _ _ _ _ _ _ _
   | exact impl_areOneMine.mono _ _ _ _ _ _ _ _ _ _ _ _ _ _ _
   | exact impl_isFeasible.mono _ _ _ _ _ _ _ _ _ _ _
   | exact impl_isPlan.mono _ _ _ _ _ _ _ _ _ _ _
   | exact LeO.none _
   | refine LeO.ite ?_ ?_
   | refine LeO.bind ?_ (fun _ => ?_)
theorem impl_DestinationSums.mono : ∀ a0 a1 a2 a3 a4 a5 a6 a7 a8 a9 a10 a11 a12 a13 a14 a15 a16 k, LeO (impl_DestinationSums.f k a0 a1 a2 a3 a4 a5 a6 a7 a8 a9 a10 a11 a12 a13 a14 a15 a16) (impl_DestinationSums.f (k + 1) a0 a1 a2 a3 a4 a5 a6 a7 a8 a9 a10 a11 a12 a13 a14 a15 a16) := by
 intro a0 a1 a2 a3 a4 a5 a6 a7 a8 a9 a10 a11 a12 a13 a14 a15 a16 k
 obtain ⟨ih0, ih1⟩ := impl_DestinationSums.mono_l k
 unfold impl_DestinationSums.f
 repeat' first
   | (with_reducible exact ih0 _ _ _ _ _ _ _ _ _ _ _ _ _ _ _ _ _ _)
   | (with_reducible exact ih1 _ _ _ _ _ _ _ _ _ _ _ _ _ _ _ _ _ _ _)
   | (with_reducible exact impl_areOneMine.mono _ _ _ _ _ _ _ _ _ _ _ _ _ _ _)
   | (with_reducible exact impl_isFeasible.mono _ _ _ _ _ _ _ _ _ _ _)
   | (with_reducible exact impl_isPlan.mono _ _ _ _ _ _ _ _ _ _ _)
   | (with_reducible exact LeO.refl _)
   | (with_reducible exact LeO.none _)
   | (with_reducible refine LeO.ite ?_ ?_)
   | (with_reducible refine LeO.bind ?_ (fun _ => ?_))
   | exact ih0 _ _ _ _ _ _ _ _ _ _ _ _ _ _ _ _ _ _
   | exact ih1 _ _ _ _ _ _ _ _ _ _ _ _ _ _ _ _ _ _ _
   | exact impl_areOneMine.mono _ _ _ _ _ _ _ _ _ _ _ _ _ _ _
   | exact impl_isFeasible.mono _ _ _ _ _ _ _ _ _ _ _
   | exact impl_isPlan.mono _ _ _ _ _ _ _ _ _ _ _
   | exact LeO.none _
   | refine LeO.ite ?_ ?_
   | refine LeO.bind ?_ (fun _ => ?_)
def impl_DestinationSums.T9 : Bool × List (List Nat × List Nat) := (true, [([], []), ([], []), ([1], [1]), ([0, 2], [0, 2]), ([3], [3]), ([], []), ([5], [5]), ([], []), ([6, 7], [6, 7]), ([8], [8]), ([4, 9], [4, 9]), ([0, 2, 0, 1, 2, 3, 4, 5, 6, 7, 8, 9, 10], [0, 2]), ([11, 10, 0, 1, 2, 3, 4, 5, 6, 7, 8, 9, 10], [10, 11])])
def impl_DestinationSums.B9 : List Nat := [0, 0, 2, 7, 15, 0, 32, 0, 224, 480, 1023, 2047, 4095]
theorem impl_DestinationSums.tab9 : rtab .any (opsOf Try.f12 9) = impl_DestinationSums.T9 := by kernel_rfl
theorem impl_DestinationSums.bits9 : waitsOk impl_DestinationSums.T9.2 impl_DestinationSums.B9 = true := by kernel_rfl
def impl_DestinationSums.T10 : Bool × List (List Nat × List Nat) := (true, [([], []), ([], []), ([1], [1]), ([2], [2]), ([0, 3], [0, 3]), ([4], [4]), ([], []), ([6], [6]), ([], []), ([7, 8], [7, 8]), ([9], [9]), ([], []), ([11], [11]), ([], []), ([12, 13], [12, 13]), ([14], [14]), ([10, 15], [10, 15]), ([5, 16], [5, 16]), ([0, 3, 0, 1, 2, 3, 4, 5, 6, 7, 8, 9, 10, 11, 12, 13, 14, 15, 16, 17], [0, 3]), ([18, 17, 0, 1, 2, 3, 4, 5, 6, 7, 8, 9, 10, 11, 12, 13, 14, 15, 16, 17], [17, 18])])
def impl_DestinationSums.B10 : List Nat := [0, 0, 2, 6, 15, 31, 0, 64, 0, 448, 960, 0, 2048, 0, 14336, 30720, 65472, 131071, 262143, 524287]
theorem impl_DestinationSums.tab10 : rtab .any (opsOf Try.f12 10) = impl_DestinationSums.T10 := by kernel_rfl
theorem impl_DestinationSums.bits10 : waitsOk impl_DestinationSums.T10.2 impl_DestinationSums.B10 = true := by kernel_rfl
set_option maxHeartbeats 8000000 in
set_option maxRecDepth 100000 in
theorem impl_DestinationSums.calls (k : Nat) (a0_0 : Int) (a0_1 : Int) (a0_2 : Int) (A0_3 : Option Addr) (c0_3 : Nat) (l0_3 : List Int) (A0_4 : Option Addr) (c0_4 : Nat) (l0_4 : List Int) (A0_5 : Option Addr) (c0_5 : Nat) (l0_5 : List Int) (A1_0 : Option Addr) (c1_0 : Nat) (l1_0 : List (List Int)) (A1_1 : Option Addr) (c1_1 : Nat) (l1_1 : List Int) (A1_2 : Option Addr) (c1_2 : Nat) (l1_2 : List Int) (a1_3 : Int) (a1_4 : Int) (a1_5 : Int) (a1_6 : Int) (a1_7 : Int) (a2_0 : Int) (A2_1 : Option Addr) (c2_1 : Nat) (l2_1 : List Int) (a3 : Int) (r1 : List Int) (r2 : Bool) (w : World) (hr0_3 : Kd.C (Kd.int .i64) w A0_3 l0_3.length l0_3) (hc0_3 : l0_3.length ≤ c0_3) (hr0_4 : Kd.C (Kd.int .i64) w A0_4 l0_4.length l0_4) (hc0_4 : l0_4.length ≤ c0_4) (hr0_5 : Kd.C (Kd.int .i64) w A0_5 l0_5.length l0_5) (hc0_5 : l0_5.length ≤ c0_5) (hr1_0 : Kd.C (Kd.slice 3 (Kd.int .i64)) w A1_0 l1_0.length l1_0) (hc1_0 : l1_0.length ≤ c1_0) (hr1_1 : Kd.C (Kd.int .i64) w A1_1 l1_1.length l1_1) (hc1_1 : l1_1.length ≤ c1_1) (hr1_2 : Kd.C (Kd.int .i64) w A1_2 l1_2.length l1_2) (hc1_2 : l1_2.length ≤ c1_2) (hr2_1 : Kd.C (Kd.int .i64) w A2_1 l2_1.length l2_1) (hc2_1 : l2_1.length ≤ c2_1) (h : impl_DestinationSums.f k a0_0 a0_1 a0_2 l0_3 l0_4 l0_5 l1_0 l1_1 l1_2 a1_3 a1_4 a1_5 a1_6 a1_7 a2_0 l2_1 a3 = some (r1, r2)) :
  Calls Try.prog 12 #[.agg #[.int .i64 a0_0, .int .i64 a0_1, .int .i64 a0_2, .slice A0_3 l0_3.length c0_3, .slice A0_4 l0_4.length c0_4, .slice A0_5 l0_5.length c0_5], .agg #[.slice A1_0 l1_0.length c1_0, .slice A1_1 l1_1.length c1_1, .slice A1_2 l1_2.length c1_2, .int .i64 a1_3, .int .i64 a1_4, .int .i64 a1_5, .int .i64 a1_6, .int .i64 a1_7], .agg #[.int .i64 a2_0, .slice A2_1 l2_1.length c2_1], .int .i64 a3] w fun e w' => ∃ v0_ : Value, e = .returned (.tuple #[v0_, .bool r2]) ∧ Kd.R (Kd.int .i64) 3 w' w.heap.size (fun _ => True) v0_ r1 ∧ Below w.heap.size w w' := by
 have hu41 := Try.underlying41
 have hu45 := Try.underlying45
 have hu47 := Try.underlying47
 have HR0_3 := m_ hr0_3
 have HC0_3 := m_ hc0_3
 clear hr0_3 hc0_3
 have HR0_4 := m_ hr0_4
 have HC0_4 := m_ hc0_4
 clear hr0_4 hc0_4
 have HR0_5 := m_ hr0_5
 have HC0_5 := m_ hc0_5
 clear hr0_5 hc0_5
 have HR1_0 := m_ hr1_0
 have HC1_0 := m_ hc1_0
 clear hr1_0 hc1_0
 have HR1_1 := m_ hr1_1
 have HC1_1 := m_ hc1_1
 clear hr1_1 hc1_1
 have HR1_2 := m_ hr1_2
 have HC1_2 := m_ hc1_2
 clear hr1_2 hc1_2
 have HR2_1 := m_ hr2_1
 have HC2_1 := m_ hc2_1
 clear hr2_1 hc2_1
 have HB := m_ (Below.refl w.heap.size w)
 have H : ((impl_areOneMine.f k a0_0 a0_1 a0_2 l0_3 l0_4 l0_5 l1_0 l1_1 l1_2 a1_3 a1_4 a1_5 a1_6 a1_7).bind fun t366 => (if t366 = true then ((impl_isPlan.f k l1_0 l1_1 l1_2 a1_3 a1_4 a1_5 a1_6 a1_7 a2_0 l2_1).bind fun t367 => (if t367 = true then ((impl_isFeasible.f k l1_0 l1_1 l1_2 a1_3 a1_4 a1_5 a1_6 a1_7 a2_0 l2_1).bind fun t368 => (if t368 = true then ((impl_isCutoff.f a3).bind fun t369 => (impl_DestinationSums.j0 k a3 (!t369) a0_0 a0_1 a0_2 l0_3 l0_4 l0_5 l1_0 l1_1 l1_2 a1_3 a1_4 a1_5 a1_6 a1_7 a2_0 l2_1)) else (impl_DestinationSums.j0 k a3 true a0_0 a0_1 a0_2 l0_3 l0_4 l0_5 l1_0 l1_1 l1_2 a1_3 a1_4 a1_5 a1_6 a1_7 a2_0 l2_1))) else (impl_DestinationSums.j0 k a3 true a0_0 a0_1 a0_2 l0_3 l0_4 l0_5 l1_0 l1_1 l1_2 a1_3 a1_4 a1_5 a1_6 a1_7 a2_0 l2_1))) else (impl_DestinationSums.j0 k a3 true a0_0 a0_1 a0_2 l0_3 l0_4 l0_5 l1_0 l1_1 l1_2 a1_3 a1_4 a1_5 a1_6 a1_7 a2_0 l2_1))) = some (r1, r2) := h
 clear h
 have HC5 := m_ H
 clear H
 go_enter Try.func12, Try.ntmps12
 go_upto_region 1 with (first | ((with_reducible refine gate_dst (N := 4) rfl ?_); refine bxx0 4 41 #[.int .i64 a0_0, .int .i64 a0_1, .int .i64 a0_2, .slice A0_3 l0_3.length c0_3, .slice A0_4 l0_4.length c0_4, .slice A0_5 l0_5.length c0_5] (be0x0 HB.out) (below_size (be0x0 HB.out)) ?_; clear HB; intro gb363 w6 BK363 HB GE363 hb hg; clear hb hg) | ((with_reducible refine gate_dst (N := 5) rfl ?_); refine bxx0 5 45 #[.slice A1_0 l1_0.length c1_0, .slice A1_1 l1_1.length c1_1, .slice A1_2 l1_2.length c1_2, .int .i64 a1_3, .int .i64 a1_4, .int .i64 a1_5, .int .i64 a1_6, .int .i64 a1_7] (be1x0 HB.out GE363.out) (below_size (be1x0 HB.out GE363.out)) ?_; clear HB; intro gb364 w7 BK364 HB GE364 hb hg; have NB363_364 := nbx0 BK363 hg; have NB364_363 := ncx0 BK363 hg; replace BK363 := kbx0 BK363 hb; clear hb hg) | ((with_reducible refine gate_dst (N := 6) rfl ?_); refine bxx0 6 47 #[.int .i64 a2_0, .slice A2_1 l2_1.length c2_1] (be2x0 HB.out GE363.out GE364.out) (below_size (be2x0 HB.out GE363.out GE364.out)) ?_; clear HB; intro gb365 w8 BK365 HB GE365 hb hg; have NB363_365 := nbx0 BK363 hg; have NB365_363 := ncx0 BK363 hg; replace BK363 := kbx0 BK363 hb; have NB364_365 := nbx0 BK364 hg; have NB365_364 := ncx0 BK364 hg; replace BK364 := kbx0 BK364 hb; clear hb hg))
 (try simp only [Act.put, List.setIfInBounds_toArray, List.set_cons_zero, List.set_cons_succ])
 go_cut [34] (fun v34 wc => ∃ (kq : Nat) (x34_4 : Bool), v34 = .bool x34_4 ∧ Aside0 (impl_DestinationSums.j0 kq a3 x34_4 a0_0 a0_1 a0_2 l0_3 l0_4 l0_5 l1_0 l1_1 l1_2 a1_3 a1_4 a1_5 a1_6 a1_7 a2_0 l2_1 = some (r1, r2)) ∧ Aside0 (kq ≤ k) ∧ Aside0 (wc.heap[gb363]? = some (.cells #[.int .i64 a0_0, .int .i64 a0_1, .int .i64 a0_2, (.slice A0_3 l0_3.length c0_3), (.slice A0_4 l0_4.length c0_4), (.slice A0_5 l0_5.length c0_5)] 41 (0, 0))) ∧ Aside0 (wc.heap[gb364]? = some (.cells #[(.slice A1_0 l1_0.length c1_0), (.slice A1_1 l1_1.length c1_1), (.slice A1_2 l1_2.length c1_2), .int .i64 a1_3, .int .i64 a1_4, .int .i64 a1_5, .int .i64 a1_6, .int .i64 a1_7] 45 (0, 0))) ∧ Aside0 (wc.heap[gb365]? = some (.cells #[.int .i64 a2_0, (.slice A2_1 l2_1.length c2_1)] 47 (0, 0))) ∧ Aside0 (Below w.heap.size w wc))
 case first =>
  have H := HC5.out
  clear HC5
  replace H := Option.bind_eq_some_iff.mp H
  obtain ⟨t366, A90, H⟩ := H
  have A9 := m_ A90
  clear A90
  by_cases c10 : t366 = true
  ·subst c10
   have H1 : ((impl_isPlan.f k l1_0 l1_1 l1_2 a1_3 a1_4 a1_5 a1_6 a1_7 a2_0 l2_1).bind fun t367 => (if t367 = true then ((impl_isFeasible.f k l1_0 l1_1 l1_2 a1_3 a1_4 a1_5 a1_6 a1_7 a2_0 l2_1).bind fun t368 => (if t368 = true then ((impl_isCutoff.f a3).bind fun t369 => (impl_DestinationSums.j0 k a3 (!t369) a0_0 a0_1 a0_2 l0_3 l0_4 l0_5 l1_0 l1_1 l1_2 a1_3 a1_4 a1_5 a1_6 a1_7 a2_0 l2_1)) else (impl_DestinationSums.j0 k a3 true a0_0 a0_1 a0_2 l0_3 l0_4 l0_5 l1_0 l1_1 l1_2 a1_3 a1_4 a1_5 a1_6 a1_7 a2_0 l2_1))) else (impl_DestinationSums.j0 k a3 true a0_0 a0_1 a0_2 l0_3 l0_4 l0_5 l1_0 l1_1 l1_2 a1_3 a1_4 a1_5 a1_6 a1_7 a2_0 l2_1))) = some (r1, r2) := by rw [if_pos rfl] at H; exact H
   clear H
   have H := H1
   clear H1
   replace H := Option.bind_eq_some_iff.mp H
   obtain ⟨t367, A110, H⟩ := H
   have A11 := m_ A110
   clear A110
   by_cases c12 : t367 = true
   ·subst c12
    have H1 : ((impl_isFeasible.f k l1_0 l1_1 l1_2 a1_3 a1_4 a1_5 a1_6 a1_7 a2_0 l2_1).bind fun t368 => (if t368 = true then ((impl_isCutoff.f a3).bind fun t369 => (impl_DestinationSums.j0 k a3 (!t369) a0_0 a0_1 a0_2 l0_3 l0_4 l0_5 l1_0 l1_1 l1_2 a1_3 a1_4 a1_5 a1_6 a1_7 a2_0 l2_1)) else (impl_DestinationSums.j0 k a3 true a0_0 a0_1 a0_2 l0_3 l0_4 l0_5 l1_0 l1_1 l1_2 a1_3 a1_4 a1_5 a1_6 a1_7 a2_0 l2_1))) = some (r1, r2) := by rw [if_pos rfl] at H; exact H
    clear H
    have H := H1
    clear H1
    replace H := Option.bind_eq_some_iff.mp H
    obtain ⟨t368, A130, H⟩ := H
    have A13 := m_ A130
    clear A130
    by_cases c14 : t368 = true
    ·subst c14
     have H1 : ((impl_isCutoff.f a3).bind fun t369 => (impl_DestinationSums.j0 k a3 (!t369) a0_0 a0_1 a0_2 l0_3 l0_4 l0_5 l1_0 l1_1 l1_2 a1_3 a1_4 a1_5 a1_6 a1_7 a2_0 l2_1)) = some (r1, r2) := by rw [if_pos rfl] at H; exact H
     clear H
     have H := H1
     clear H1
     replace H := Option.bind_eq_some_iff.mp H
     obtain ⟨t369, A150, H⟩ := H
     have A15 := m_ A150
     clear A150
     have H' := m_ H
     clear H
     have hnb16 := NB363_364.out
     have hnc16 := NB364_363.out
     have hnb17 := NB363_365.out
     have hnc17 := NB365_363.out
     obtain ⟨hcz18_0, hcz18_1, hcz18_2, hcz18_3, hcz18_4, hcz18_5, hfz18_0, hfz18_1, hfz18_2, hfz18_3, hfz18_4, hfz18_5⟩ := cf6x0 BK363.out
     have hnb19 := NB364_365.out
     have hnc19 := NB365_364.out
     obtain ⟨hcz20_0, hcz20_1, hcz20_2, hcz20_3, hcz20_4, hcz20_5, hcz20_6, hcz20_7, hfz20_0, hfz20_1, hfz20_2, hfz20_3, hfz20_4, hfz20_5, hfz20_6, hfz20_7⟩ := cf8x0 BK364.out
     go_wp2_with (first | ((with_reducible refine gate_callee (f := 40) rfl ?_); refine gLx0 (some 16) Try.func40 #[.agg #[.int .i64 a0_0, .int .i64 a0_1, .int .i64 a0_2, .slice A0_3 l0_3.length c0_3, .slice A0_4 l0_4.length c0_4, .slice A0_5 l0_5.length c0_5], .agg #[.slice A1_0 l1_0.length c1_0, .slice A1_1 l1_1.length c1_1, .slice A1_2 l1_2.length c1_2, .int .i64 a1_3, .int .i64 a1_4, .int .i64 a1_5, .int .i64 a1_6, .int .i64 a1_7]] ?_; (with_reducible refine (impl_areOneMine.calls k a0_0 a0_1 a0_2 _ _ l0_3 _ _ l0_4 _ _ l0_5 _ _ l1_0 _ _ l1_1 _ _ l1_2 a1_3 a1_4 a1_5 a1_6 a1_7 true _ ?side1 ?side2 ?side3 ?side4 ?side5 ?side6 ?side7 ?side8 ?side9 ?side10 ?side11 ?side12 A9.out).mono ?_); (case side1 => exact rCx0 (Kd.C_below HR0_3.out HB.out)); (case side2 => exact HC0_3.out); (case side3 => exact rCx0 (Kd.C_below HR0_4.out HB.out)); (case side4 => exact HC0_4.out); (case side5 => exact rCx0 (Kd.C_below HR0_5.out HB.out)); (case side6 => exact HC0_5.out); (case side7 => exact rCx0 (Kd.C_below HR1_0.out HB.out)); (case side8 => exact HC1_0.out); (case side9 => exact rCx0 (Kd.C_below HR1_1.out HB.out)); (case side10 => exact HC1_1.out); (case side11 => exact rCx0 (Kd.C_below HR1_2.out HB.out)); (case side12 => exact HC1_2.out); rintro e w21 ⟨rfl, hb⟩; refine ⟨_, rfl, ?_⟩; replace BK363 := kbx0 BK363 hb; replace BK364 := kbx0 BK364 hb; replace BK365 := kbx0 BK365 hb; replace HB := m_ (below_step (be3x0 HB.out GE363.out GE364.out GE365.out) hb); (try clear hb); (try clear hb2); (try clear hk); (try clear hi); obtain ⟨hcz22_0, hcz22_1, hcz22_2, hcz22_3, hcz22_4, hcz22_5, hcz22_6, hcz22_7, hfz22_0, hfz22_1, hfz22_2, hfz22_3, hfz22_4, hfz22_5, hfz22_6, hfz22_7⟩ := cf8x0 BK364.out; obtain ⟨hcz23_0, hcz23_1, hfz23_0, hfz23_1⟩ := cf2x0 BK365.out) | (go_at_call 41; (with_reducible refine (impl_isPlan.calls k _ _ l1_0 _ _ l1_1 _ _ l1_2 a1_3 a1_4 a1_5 a1_6 a1_7 a2_0 _ _ l2_1 true _ ?side1 ?side2 ?side3 ?side4 ?side5 ?side6 ?side7 ?side8 A11.out).mono ?_); (case side1 => exact rCx0 (Kd.C_below HR1_0.out HB.out)); (case side2 => exact HC1_0.out); (case side3 => exact rCx0 (Kd.C_below HR1_1.out HB.out)); (case side4 => exact HC1_1.out); (case side5 => exact rCx0 (Kd.C_below HR1_2.out HB.out)); (case side6 => exact HC1_2.out); (case side7 => exact rCx0 (Kd.C_below HR2_1.out HB.out)); (case side8 => exact HC2_1.out); rintro e w24 ⟨rfl, hb⟩; replace BK363 := kbx0 BK363 hb; replace BK364 := kbx0 BK364 hb; replace BK365 := kbx0 BK365 hb; replace HB := m_ (below_step (be3x0 HB.out GE363.out GE364.out GE365.out) hb); (try clear hb); (try clear hb2); (try clear hk); (try clear hi); obtain ⟨hcz25_0, hcz25_1, hcz25_2, hcz25_3, hcz25_4, hcz25_5, hcz25_6, hcz25_7, hfz25_0, hfz25_1, hfz25_2, hfz25_3, hfz25_4, hfz25_5, hfz25_6, hfz25_7⟩ := cf8x0 BK364.out; obtain ⟨hcz26_0, hcz26_1, hfz26_0, hfz26_1⟩ := cf2x0 BK365.out) | (go_at_call 42; (with_reducible refine (impl_isFeasible.calls k _ _ l1_0 _ _ l1_1 _ _ l1_2 a1_3 a1_4 a1_5 a1_6 a1_7 a2_0 _ _ l2_1 true _ ?side1 ?side2 ?side3 ?side4 ?side5 ?side6 ?side7 ?side8 A13.out).mono ?_); (case side1 => exact rCx0 (Kd.C_below HR1_0.out HB.out)); (case side2 => exact HC1_0.out); (case side3 => exact rCx0 (Kd.C_below HR1_1.out HB.out)); (case side4 => exact HC1_1.out); (case side5 => exact rCx0 (Kd.C_below HR1_2.out HB.out)); (case side6 => exact HC1_2.out); (case side7 => exact rCx0 (Kd.C_below HR2_1.out HB.out)); (case side8 => exact HC2_1.out); rintro e w27 ⟨rfl, hb⟩; replace BK363 := kbx0 BK363 hb; replace BK364 := kbx0 BK364 hb; replace BK365 := kbx0 BK365 hb; replace HB := m_ (below_step (be3x0 HB.out GE363.out GE364.out GE365.out) hb); (try clear hb); (try clear hb2); (try clear hk); (try clear hi)) | (go_at_call 43; (with_reducible refine (impl_isCutoff.calls a3 t369 _ A15.out).mono ?_); rintro e w' ⟨rfl, ⟨nd, rfl⟩⟩))
     go_meet
     case rel => exact ⟨_, (!t369), frx0, H', ⟨by first | omega | exact Nat.le_refl _⟩, ⟨rBx0 BK363.out⟩, ⟨rBx0 BK364.out⟩, ⟨rBx0 BK365.out⟩, ⟨be3x0 HB.out GE363.out GE364.out GE365.out⟩⟩
    ·replace c14 := Bool.eq_false_iff.mpr c14
     subst c14
     have H1 : (impl_DestinationSums.j0 k a3 true a0_0 a0_1 a0_2 l0_3 l0_4 l0_5 l1_0 l1_1 l1_2 a1_3 a1_4 a1_5 a1_6 a1_7 a2_0 l2_1) = some (r1, r2) := by rw [if_neg (show ¬ (false = true) by decide)] at H; exact H
     clear H
     have H := H1
     clear H1
     have H' := m_ H
     clear H
     have hnb28 := NB363_364.out
     have hnc28 := NB364_363.out
     have hnb29 := NB363_365.out
     have hnc29 := NB365_363.out
     obtain ⟨hcz30_0, hcz30_1, hcz30_2, hcz30_3, hcz30_4, hcz30_5, hfz30_0, hfz30_1, hfz30_2, hfz30_3, hfz30_4, hfz30_5⟩ := cf6x0 BK363.out
     have hnb31 := NB364_365.out
     have hnc31 := NB365_364.out
     obtain ⟨hcz32_0, hcz32_1, hcz32_2, hcz32_3, hcz32_4, hcz32_5, hcz32_6, hcz32_7, hfz32_0, hfz32_1, hfz32_2, hfz32_3, hfz32_4, hfz32_5, hfz32_6, hfz32_7⟩ := cf8x0 BK364.out
     go_wp2_with (first | ((with_reducible refine gate_callee (f := 40) rfl ?_); refine gLx0 (some 16) Try.func40 #[.agg #[.int .i64 a0_0, .int .i64 a0_1, .int .i64 a0_2, .slice A0_3 l0_3.length c0_3, .slice A0_4 l0_4.length c0_4, .slice A0_5 l0_5.length c0_5], .agg #[.slice A1_0 l1_0.length c1_0, .slice A1_1 l1_1.length c1_1, .slice A1_2 l1_2.length c1_2, .int .i64 a1_3, .int .i64 a1_4, .int .i64 a1_5, .int .i64 a1_6, .int .i64 a1_7]] ?_; (with_reducible refine (impl_areOneMine.calls k a0_0 a0_1 a0_2 _ _ l0_3 _ _ l0_4 _ _ l0_5 _ _ l1_0 _ _ l1_1 _ _ l1_2 a1_3 a1_4 a1_5 a1_6 a1_7 true _ ?side1 ?side2 ?side3 ?side4 ?side5 ?side6 ?side7 ?side8 ?side9 ?side10 ?side11 ?side12 A9.out).mono ?_); (case side1 => exact rCx0 (Kd.C_below HR0_3.out HB.out)); (case side2 => exact HC0_3.out); (case side3 => exact rCx0 (Kd.C_below HR0_4.out HB.out)); (case side4 => exact HC0_4.out); (case side5 => exact rCx0 (Kd.C_below HR0_5.out HB.out)); (case side6 => exact HC0_5.out); (case side7 => exact rCx0 (Kd.C_below HR1_0.out HB.out)); (case side8 => exact HC1_0.out); (case side9 => exact rCx0 (Kd.C_below HR1_1.out HB.out)); (case side10 => exact HC1_1.out); (case side11 => exact rCx0 (Kd.C_below HR1_2.out HB.out)); (case side12 => exact HC1_2.out); rintro e w33 ⟨rfl, hb⟩; refine ⟨_, rfl, ?_⟩; replace BK363 := kbx0 BK363 hb; replace BK364 := kbx0 BK364 hb; replace BK365 := kbx0 BK365 hb; replace HB := m_ (below_step (be3x0 HB.out GE363.out GE364.out GE365.out) hb); (try clear hb); (try clear hb2); (try clear hk); (try clear hi); obtain ⟨hcz34_0, hcz34_1, hcz34_2, hcz34_3, hcz34_4, hcz34_5, hcz34_6, hcz34_7, hfz34_0, hfz34_1, hfz34_2, hfz34_3, hfz34_4, hfz34_5, hfz34_6, hfz34_7⟩ := cf8x0 BK364.out; obtain ⟨hcz35_0, hcz35_1, hfz35_0, hfz35_1⟩ := cf2x0 BK365.out) | (go_at_call 41; (with_reducible refine (impl_isPlan.calls k _ _ l1_0 _ _ l1_1 _ _ l1_2 a1_3 a1_4 a1_5 a1_6 a1_7 a2_0 _ _ l2_1 true _ ?side1 ?side2 ?side3 ?side4 ?side5 ?side6 ?side7 ?side8 A11.out).mono ?_); (case side1 => exact rCx0 (Kd.C_below HR1_0.out HB.out)); (case side2 => exact HC1_0.out); (case side3 => exact rCx0 (Kd.C_below HR1_1.out HB.out)); (case side4 => exact HC1_1.out); (case side5 => exact rCx0 (Kd.C_below HR1_2.out HB.out)); (case side6 => exact HC1_2.out); (case side7 => exact rCx0 (Kd.C_below HR2_1.out HB.out)); (case side8 => exact HC2_1.out); rintro e w36 ⟨rfl, hb⟩; replace BK363 := kbx0 BK363 hb; replace BK364 := kbx0 BK364 hb; replace BK365 := kbx0 BK365 hb; replace HB := m_ (below_step (be3x0 HB.out GE363.out GE364.out GE365.out) hb); (try clear hb); (try clear hb2); (try clear hk); (try clear hi); obtain ⟨hcz37_0, hcz37_1, hcz37_2, hcz37_3, hcz37_4, hcz37_5, hcz37_6, hcz37_7, hfz37_0, hfz37_1, hfz37_2, hfz37_3, hfz37_4, hfz37_5, hfz37_6, hfz37_7⟩ := cf8x0 BK364.out; obtain ⟨hcz38_0, hcz38_1, hfz38_0, hfz38_1⟩ := cf2x0 BK365.out) | (go_at_call 42; (with_reducible refine (impl_isFeasible.calls k _ _ l1_0 _ _ l1_1 _ _ l1_2 a1_3 a1_4 a1_5 a1_6 a1_7 a2_0 _ _ l2_1 false _ ?side1 ?side2 ?side3 ?side4 ?side5 ?side6 ?side7 ?side8 A13.out).mono ?_); (case side1 => exact rCx0 (Kd.C_below HR1_0.out HB.out)); (case side2 => exact HC1_0.out); (case side3 => exact rCx0 (Kd.C_below HR1_1.out HB.out)); (case side4 => exact HC1_1.out); (case side5 => exact rCx0 (Kd.C_below HR1_2.out HB.out)); (case side6 => exact HC1_2.out); (case side7 => exact rCx0 (Kd.C_below HR2_1.out HB.out)); (case side8 => exact HC2_1.out); rintro e w39 ⟨rfl, hb⟩; replace BK363 := kbx0 BK363 hb; replace BK364 := kbx0 BK364 hb; replace BK365 := kbx0 BK365 hb; replace HB := m_ (below_step (be3x0 HB.out GE363.out GE364.out GE365.out) hb); (try clear hb); (try clear hb2); (try clear hk); (try clear hi)))
     go_meet
     case rel => exact ⟨_, (true), frx0, H', ⟨by first | omega | exact Nat.le_refl _⟩, ⟨rBx0 BK363.out⟩, ⟨rBx0 BK364.out⟩, ⟨rBx0 BK365.out⟩, ⟨be3x0 HB.out GE363.out GE364.out GE365.out⟩⟩
   ·replace c12 := Bool.eq_false_iff.mpr c12
    subst c12
    have H1 : (impl_DestinationSums.j0 k a3 true a0_0 a0_1 a0_2 l0_3 l0_4 l0_5 l1_0 l1_1 l1_2 a1_3 a1_4 a1_5 a1_6 a1_7 a2_0 l2_1) = some (r1, r2) := by rw [if_neg (show ¬ (false = true) by decide)] at H; exact H
    clear H
    have H := H1
    clear H1
    have H' := m_ H
    clear H
    have hnb40 := NB363_364.out
    have hnc40 := NB364_363.out
    have hnb41 := NB363_365.out
    have hnc41 := NB365_363.out
    obtain ⟨hcz42_0, hcz42_1, hcz42_2, hcz42_3, hcz42_4, hcz42_5, hfz42_0, hfz42_1, hfz42_2, hfz42_3, hfz42_4, hfz42_5⟩ := cf6x0 BK363.out
    have hnb43 := NB364_365.out
    have hnc43 := NB365_364.out
    obtain ⟨hcz44_0, hcz44_1, hcz44_2, hcz44_3, hcz44_4, hcz44_5, hcz44_6, hcz44_7, hfz44_0, hfz44_1, hfz44_2, hfz44_3, hfz44_4, hfz44_5, hfz44_6, hfz44_7⟩ := cf8x0 BK364.out
    go_wp2_with (first | ((with_reducible refine gate_callee (f := 40) rfl ?_); refine gLx0 (some 16) Try.func40 #[.agg #[.int .i64 a0_0, .int .i64 a0_1, .int .i64 a0_2, .slice A0_3 l0_3.length c0_3, .slice A0_4 l0_4.length c0_4, .slice A0_5 l0_5.length c0_5], .agg #[.slice A1_0 l1_0.length c1_0, .slice A1_1 l1_1.length c1_1, .slice A1_2 l1_2.length c1_2, .int .i64 a1_3, .int .i64 a1_4, .int .i64 a1_5, .int .i64 a1_6, .int .i64 a1_7]] ?_; (with_reducible refine (impl_areOneMine.calls k a0_0 a0_1 a0_2 _ _ l0_3 _ _ l0_4 _ _ l0_5 _ _ l1_0 _ _ l1_1 _ _ l1_2 a1_3 a1_4 a1_5 a1_6 a1_7 true _ ?side1 ?side2 ?side3 ?side4 ?side5 ?side6 ?side7 ?side8 ?side9 ?side10 ?side11 ?side12 A9.out).mono ?_); (case side1 => exact rCx0 (Kd.C_below HR0_3.out HB.out)); (case side2 => exact HC0_3.out); (case side3 => exact rCx0 (Kd.C_below HR0_4.out HB.out)); (case side4 => exact HC0_4.out); (case side5 => exact rCx0 (Kd.C_below HR0_5.out HB.out)); (case side6 => exact HC0_5.out); (case side7 => exact rCx0 (Kd.C_below HR1_0.out HB.out)); (case side8 => exact HC1_0.out); (case side9 => exact rCx0 (Kd.C_below HR1_1.out HB.out)); (case side10 => exact HC1_1.out); (case side11 => exact rCx0 (Kd.C_below HR1_2.out HB.out)); (case side12 => exact HC1_2.out); rintro e w45 ⟨rfl, hb⟩; refine ⟨_, rfl, ?_⟩; replace BK363 := kbx0 BK363 hb; replace BK364 := kbx0 BK364 hb; replace BK365 := kbx0 BK365 hb; replace HB := m_ (below_step (be3x0 HB.out GE363.out GE364.out GE365.out) hb); (try clear hb); (try clear hb2); (try clear hk); (try clear hi); obtain ⟨hcz46_0, hcz46_1, hcz46_2, hcz46_3, hcz46_4, hcz46_5, hcz46_6, hcz46_7, hfz46_0, hfz46_1, hfz46_2, hfz46_3, hfz46_4, hfz46_5, hfz46_6, hfz46_7⟩ := cf8x0 BK364.out; obtain ⟨hcz47_0, hcz47_1, hfz47_0, hfz47_1⟩ := cf2x0 BK365.out) | (go_at_call 41; (with_reducible refine (impl_isPlan.calls k _ _ l1_0 _ _ l1_1 _ _ l1_2 a1_3 a1_4 a1_5 a1_6 a1_7 a2_0 _ _ l2_1 false _ ?side1 ?side2 ?side3 ?side4 ?side5 ?side6 ?side7 ?side8 A11.out).mono ?_); (case side1 => exact rCx0 (Kd.C_below HR1_0.out HB.out)); (case side2 => exact HC1_0.out); (case side3 => exact rCx0 (Kd.C_below HR1_1.out HB.out)); (case side4 => exact HC1_1.out); (case side5 => exact rCx0 (Kd.C_below HR1_2.out HB.out)); (case side6 => exact HC1_2.out); (case side7 => exact rCx0 (Kd.C_below HR2_1.out HB.out)); (case side8 => exact HC2_1.out); rintro e w48 ⟨rfl, hb⟩; replace BK363 := kbx0 BK363 hb; replace BK364 := kbx0 BK364 hb; replace BK365 := kbx0 BK365 hb; replace HB := m_ (below_step (be3x0 HB.out GE363.out GE364.out GE365.out) hb); (try clear hb); (try clear hb2); (try clear hk); (try clear hi)))
    go_meet
    case rel => exact ⟨_, (true), frx0, H', ⟨by first | omega | exact Nat.le_refl _⟩, ⟨rBx0 BK363.out⟩, ⟨rBx0 BK364.out⟩, ⟨rBx0 BK365.out⟩, ⟨be3x0 HB.out GE363.out GE364.out GE365.out⟩⟩
  ·replace c10 := Bool.eq_false_iff.mpr c10
   subst c10
   have H1 : (impl_DestinationSums.j0 k a3 true a0_0 a0_1 a0_2 l0_3 l0_4 l0_5 l1_0 l1_1 l1_2 a1_3 a1_4 a1_5 a1_6 a1_7 a2_0 l2_1) = some (r1, r2) := by rw [if_neg (show ¬ (false = true) by decide)] at H; exact H
   clear H
   have H := H1
   clear H1
   have H' := m_ H
   clear H
   have hnb49 := NB363_364.out
   have hnc49 := NB364_363.out
   have hnb50 := NB363_365.out
   have hnc50 := NB365_363.out
   obtain ⟨hcz51_0, hcz51_1, hcz51_2, hcz51_3, hcz51_4, hcz51_5, hfz51_0, hfz51_1, hfz51_2, hfz51_3, hfz51_4, hfz51_5⟩ := cf6x0 BK363.out
   have hnb52 := NB364_365.out
   have hnc52 := NB365_364.out
   obtain ⟨hcz53_0, hcz53_1, hcz53_2, hcz53_3, hcz53_4, hcz53_5, hcz53_6, hcz53_7, hfz53_0, hfz53_1, hfz53_2, hfz53_3, hfz53_4, hfz53_5, hfz53_6, hfz53_7⟩ := cf8x0 BK364.out
   go_wp2_with (first | ((with_reducible refine gate_callee (f := 40) rfl ?_); refine gLx0 (some 16) Try.func40 #[.agg #[.int .i64 a0_0, .int .i64 a0_1, .int .i64 a0_2, .slice A0_3 l0_3.length c0_3, .slice A0_4 l0_4.length c0_4, .slice A0_5 l0_5.length c0_5], .agg #[.slice A1_0 l1_0.length c1_0, .slice A1_1 l1_1.length c1_1, .slice A1_2 l1_2.length c1_2, .int .i64 a1_3, .int .i64 a1_4, .int .i64 a1_5, .int .i64 a1_6, .int .i64 a1_7]] ?_; (with_reducible refine (impl_areOneMine.calls k a0_0 a0_1 a0_2 _ _ l0_3 _ _ l0_4 _ _ l0_5 _ _ l1_0 _ _ l1_1 _ _ l1_2 a1_3 a1_4 a1_5 a1_6 a1_7 false _ ?side1 ?side2 ?side3 ?side4 ?side5 ?side6 ?side7 ?side8 ?side9 ?side10 ?side11 ?side12 A9.out).mono ?_); (case side1 => exact rCx0 (Kd.C_below HR0_3.out HB.out)); (case side2 => exact HC0_3.out); (case side3 => exact rCx0 (Kd.C_below HR0_4.out HB.out)); (case side4 => exact HC0_4.out); (case side5 => exact rCx0 (Kd.C_below HR0_5.out HB.out)); (case side6 => exact HC0_5.out); (case side7 => exact rCx0 (Kd.C_below HR1_0.out HB.out)); (case side8 => exact HC1_0.out); (case side9 => exact rCx0 (Kd.C_below HR1_1.out HB.out)); (case side10 => exact HC1_1.out); (case side11 => exact rCx0 (Kd.C_below HR1_2.out HB.out)); (case side12 => exact HC1_2.out); rintro e w54 ⟨rfl, hb⟩; refine ⟨_, rfl, ?_⟩; replace BK363 := kbx0 BK363 hb; replace BK364 := kbx0 BK364 hb; replace BK365 := kbx0 BK365 hb; replace HB := m_ (below_step (be3x0 HB.out GE363.out GE364.out GE365.out) hb); (try clear hb); (try clear hb2); (try clear hk); (try clear hi)))
   go_meet
   case rel => exact ⟨_, (true), frx0, H', ⟨by first | omega | exact Nat.le_refl _⟩, ⟨rBx0 BK363.out⟩, ⟨rBx0 BK364.out⟩, ⟨rBx0 BK365.out⟩, ⟨be3x0 HB.out GE363.out GE364.out GE365.out⟩⟩
 case rest =>
  clear HC5
  try clear c10; try clear c12; try clear c14; try clear hcz18_0 hcz18_1 hcz18_2 hcz18_3 hcz18_4 hcz18_5; try clear hcz20_0 hcz20_1 hcz20_2 hcz20_3 hcz20_4 hcz20_5 hcz20_6 hcz20_7; try clear hcz22_0 hcz22_1 hcz22_2 hcz22_3 hcz22_4 hcz22_5 hcz22_6 hcz22_7; try clear hcz23_0 hcz23_1; try clear hcz25_0 hcz25_1 hcz25_2 hcz25_3 hcz25_4 hcz25_5 hcz25_6 hcz25_7; try clear hcz26_0 hcz26_1; try clear hcz30_0 hcz30_1 hcz30_2 hcz30_3 hcz30_4 hcz30_5; try clear hcz32_0 hcz32_1 hcz32_2 hcz32_3 hcz32_4 hcz32_5 hcz32_6 hcz32_7; try clear hcz34_0 hcz34_1 hcz34_2 hcz34_3 hcz34_4 hcz34_5 hcz34_6 hcz34_7; try clear hcz35_0 hcz35_1; try clear hcz37_0 hcz37_1 hcz37_2 hcz37_3 hcz37_4 hcz37_5 hcz37_6 hcz37_7; try clear hcz38_0 hcz38_1; try clear hcz42_0 hcz42_1 hcz42_2 hcz42_3 hcz42_4 hcz42_5; try clear hcz44_0 hcz44_1 hcz44_2 hcz44_3 hcz44_4 hcz44_5 hcz44_6 hcz44_7; try clear hcz46_0 hcz46_1 hcz46_2 hcz46_3 hcz46_4 hcz46_5 hcz46_6 hcz46_7; try clear hcz47_0 hcz47_1; try clear hcz51_0 hcz51_1 hcz51_2 hcz51_3 hcz51_4 hcz51_5; try clear hcz53_0 hcz53_1 hcz53_2 hcz53_3 hcz53_4 hcz53_5 hcz53_6 hcz53_7; try clear hfz18_0 hfz18_1 hfz18_2 hfz18_3 hfz18_4 hfz18_5; try clear hfz20_0 hfz20_1 hfz20_2 hfz20_3 hfz20_4 hfz20_5 hfz20_6 hfz20_7; try clear hfz22_0 hfz22_1 hfz22_2 hfz22_3 hfz22_4 hfz22_5 hfz22_6 hfz22_7; try clear hfz23_0 hfz23_1; try clear hfz25_0 hfz25_1 hfz25_2 hfz25_3 hfz25_4 hfz25_5 hfz25_6 hfz25_7; try clear hfz26_0 hfz26_1; try clear hfz30_0 hfz30_1 hfz30_2 hfz30_3 hfz30_4 hfz30_5; try clear hfz32_0 hfz32_1 hfz32_2 hfz32_3 hfz32_4 hfz32_5 hfz32_6 hfz32_7; try clear hfz34_0 hfz34_1 hfz34_2 hfz34_3 hfz34_4 hfz34_5 hfz34_6 hfz34_7; try clear hfz35_0 hfz35_1; try clear hfz37_0 hfz37_1 hfz37_2 hfz37_3 hfz37_4 hfz37_5 hfz37_6 hfz37_7; try clear hfz38_0 hfz38_1; try clear hfz42_0 hfz42_1 hfz42_2 hfz42_3 hfz42_4 hfz42_5; try clear hfz44_0 hfz44_1 hfz44_2 hfz44_3 hfz44_4 hfz44_5 hfz44_6 hfz44_7; try clear hfz46_0 hfz46_1 hfz46_2 hfz46_3 hfz46_4 hfz46_5 hfz46_6 hfz46_7; try clear hfz47_0 hfz47_1
  try clear hfz51_0 hfz51_1 hfz51_2 hfz51_3 hfz51_4 hfz51_5; try clear hfz53_0 hfz53_1 hfz53_2 hfz53_3 hfz53_4 hfz53_5 hfz53_6 hfz53_7
  obtain ⟨kq, x34_4, rfl, HA, HJ4, BK363, BK364, BK365, HB⟩ := hcut
  cases kq with
  | zero => exact absurd HA.out (by simp [impl_DestinationSums.j0])
  | succ kj4 =>
   have H := HA.out
   clear HA
   simp only [impl_DestinationSums.j0] at H
   by_cases c55 : x34_4 = true
   ·subst c55
    have H1 : (some (([] : List Int), false)) = some (r1, r2) := by rw [if_pos rfl] at H; exact H
    clear H
    have H := H1
    clear H1
    simp only [Option.some.injEq, Prod.mk.injEq] at H
    obtain ⟨rfl, rfl⟩ := H
    go_wp2
    go_ret2
    exact ⟨_, by first | rfl | (simp [errW_none, errW_some] <;> rfl) | (simp [*, errW_none, errW_some] <;> rfl), by first | exact Kd.R_nil _ _ _ _ _ | exact Kd.N_nil _ _ _ _ _ | exact Kd.V_nil _ _ _ _ _ | exact Kd.Q_nil _ _ _ _ _ | exact Kd.S_nil _ _ _ _ _, be3x0 HB.out GE363.out GE364.out GE365.out⟩
   ·replace c55 := Bool.eq_false_iff.mpr c55
    subst c55
    have H1 : (if 6 ≤ 35184372088832 then (impl_DestinationSums.l0 kj4 a3 (List.replicate 6 0) l2_1 (l2_1.length : Int) 0 a0_0 a0_1 a0_2 l0_3 l0_4 l0_5 l1_0 l1_1 l1_2 a1_3 a1_4 a1_5 a1_6 a1_7) else (none)) = some (r1, r2) := by rw [if_neg (show ¬ (false = true) by decide)] at H; exact H
    clear H
    have H := H1
    clear H1
    by_cases c56 : 6 ≤ 35184372088832
    ·rw [if_pos c56] at H
     have c56b0 := eq_true c56
     have c56b1 := decide_eq_true c56
     clear c56
     obtain ⟨y370, hy370⟩ : ∃ y_ : List Int, y_ = (List.replicate 6 0) := ⟨_, rfl⟩
     replace H : (impl_DestinationSums.l0 kj4 a3 y370 l2_1 (l2_1.length : Int) 0 a0_0 a0_1 a0_2 l0_3 l0_4 l0_5 l1_0 l1_1 l1_2 a1_3 a1_4 a1_5 a1_6 a1_7) = some (r1, r2) := by first | (rw [hy370]; with_reducible exact H) | (have H2_ := (Option.bind_some _ _).symm.trans H; rw [hy370]; with_reducible exact H2_) | (have H2_ := (Option.bind_some _ _).symm.trans H; with_reducible exact H2_) | with_reducible exact H | (rw [hy370]; exact H) | exact H
     have Ny370 := m_ hy370
     clear hy370
     have H' := m_ H
     clear H
     go_wp2_with (first | ((with_reducible refine gate_dst (N := 35) rfl ?_); refine Kd.R_make (Kd.int .i64) _ 3 rfl (N := 35) rfl 24 _ _ rfl 6 rfl rfl Try.underlying24 (.int .i64 0) 8 info3 rfl (by decide) (by omega) 0 (ok := fun _ => True) (okp := fun _ => True) rfl (fun _ hk => hk) trivial (by omega) (by omega) (Below.refl _ _) (Nat.le_refl _) ?_; intro v371 w57 ho58 hb hg_ hnew_; clear hg_ hnew_; (first | rw [← Ny370.out] at ho58 | (simp only [Int.reduceToNat] at ho58; rw [← Ny370.out] at ho58)); have HO372 := m_ (Kd.R_lower ho58 (below_size (be3x0 HB.out GE363.out GE364.out GE365.out))); replace BK363 := kbx0 BK363 hb; replace BK364 := kbx0 BK364 hb; replace BK365 := kbx0 BK365 hb; replace HB := m_ (below_step (be3x0 HB.out GE363.out GE364.out GE365.out) hb); clear hb ho58; have hnb59 := NB365_363.out; have hnc59 := NB363_365.out; have hnb60 := NB365_364.out; have hnc60 := NB364_365.out; obtain ⟨hcz61_0, hcz61_1, hfz61_0, hfz61_1⟩ := cf2x0 BK365.out))
     go_loopg [39] kj4 (fun kq v39 w' => ∃ (x10_2 : List Int) (x39_2 : Int), v39 = .int .i64 x39_2 ∧ Aside0 (impl_DestinationSums.l0 kq a3 x10_2 l2_1 (l2_1.length : Int) x39_2 a0_0 a0_1 a0_2 l0_3 l0_4 l0_5 l1_0 l1_1 l1_2 a1_3 a1_4 a1_5 a1_6 a1_7 = some (r1, r2)) ∧ Aside0 (kq ≤ kj4) ∧ Aside0 (Kd.R (Kd.int .i64) 3 w' w.heap.size (fun _ => True) v371 x10_2) ∧ Aside0 (w'.heap[gb363]? = some (.cells #[.int .i64 a0_0, .int .i64 a0_1, .int .i64 a0_2, (.slice A0_3 l0_3.length c0_3), (.slice A0_4 l0_4.length c0_4), (.slice A0_5 l0_5.length c0_5)] 41 (0, 0))) ∧ Aside0 (w'.heap[gb364]? = some (.cells #[(.slice A1_0 l1_0.length c1_0), (.slice A1_1 l1_1.length c1_1), (.slice A1_2 l1_2.length c1_2), .int .i64 a1_3, .int .i64 a1_4, .int .i64 a1_5, .int .i64 a1_6, .int .i64 a1_7] 45 (0, 0))) ∧ Aside0 (w'.heap[gb365]? = some (.cells #[.int .i64 a2_0, (.slice A2_1 l2_1.length c2_1)] 47 (0, 0))) ∧ Aside0 (Below w.heap.size w w'))
     case atStart => exact ⟨(y370), (0), frx0, H', ⟨Nat.le_refl _⟩, ⟨rRx0 HO372.out⟩, ⟨rBx0 BK363.out⟩, ⟨rBx0 BK364.out⟩, ⟨rBx0 BK365.out⟩, ⟨be3x0 HB.out GE363.out GE364.out GE365.out⟩⟩
     case round =>
      clear H'
      try clear c55; try clear c56; try clear c56b0; try clear c56b1; try clear hcz61_0 hcz61_1 hfz61_0 hfz61_1
      obtain ⟨x10_2, x39_2, rfl, HA, HK2, HO_10, BK363, BK364, BK365, HB⟩ := hrel
      cases gk with
      | zero => exact absurd HA.out (by simp [impl_DestinationSums.l0])
      | succ k2 =>
       have H := HA.out
       clear HA
       simp only [impl_DestinationSums.l0] at H
       by_cases c62 : x39_2 < (l2_1.length : Int)
       ·rw [if_pos c62] at H
        have c62b0 := decide_eq_true c62
        clear c62
        by_cases c63 : 0 ≤ x39_2
        ·rw [if_pos c63] at H
         have c63b0 := decide_eq_true c63
         clear c63
         by_cases c64 : x39_2 < (l2_1.length : Int)
         ·rw [if_pos c64] at H
          have c64b0 := decide_eq_true c64
          clear c64
          by_cases c65 : (rd l2_1 x39_2) ≥ 0
          ·rw [if_pos c65] at H
           have c65b0 : decide (0 ≤ (rd l2_1 x39_2)) = true := decide_eq_true c65
           clear c65
           replace H := Option.bind_eq_some_iff.mp H
           obtain ⟨t374, A660, H⟩ := H
           have A66 := m_ A660
           clear A660
           obtain ⟨ji67, hji67⟩ : ∃ j_ : Int, (wrap64 (2 * t374)) = j_ := ⟨_, rfl⟩
           replace H : (if 0 ≤ (ji67) then (if (ji67) < (x10_2.length : Int) then (if x39_2 < (l0_3.length : Int) then ((some (x10_2.set ((ji67) : Int).toNat (wrap64 ((rd x10_2 (ji67)) + (rd l0_3 x39_2))) : List Int)).bind fun y377 => (if 0 ≤ (wrap64 ((ji67) + 1)) then (if (wrap64 ((ji67) + 1)) < (x10_2.length : Int) then (if x39_2 < (l0_4.length : Int) then (impl_DestinationSums.l0 k2 a3 (y377.set ((wrap64 ((ji67) + 1)) : Int).toNat (wrap64 ((rd y377 (wrap64 ((ji67) + 1))) + (wrap64 ((rd l0_3 x39_2) * (rd l0_4 x39_2)))))) l2_1 (l2_1.length : Int) (wrap64 (x39_2 + 1)) a0_0 a0_1 a0_2 l0_3 l0_4 l0_5 l1_0 l1_1 l1_2 a1_3 a1_4 a1_5 a1_6 a1_7) else (none)) else (none)) else (none))) else (none)) else (none)) else (none)) = some (r1, r2) := by first | (rw [hji67] at H; exact H) | (simp only [hji67] at H ⊢; exact H)
           (try rw [hji67] at A66)
           have hji67w : (IntKind.i64.wrap (2 * t374)) = ji67 := (i64_w _).trans hji67
           by_cases c68 : 0 ≤ (ji67)
           ·rw [if_pos c68] at H
            have c68b0 := decide_eq_true c68
            clear c68
            by_cases c69 : (ji67) < (x10_2.length : Int)
            ·rw [if_pos c69] at H
             have c69b0 := decide_eq_true c69
             clear c69
             by_cases c70 : x39_2 < (l0_3.length : Int)
             ·rw [if_pos c70] at H
              have c70b0 := decide_eq_true c70
              clear c70
              obtain ⟨y377, hy377⟩ : ∃ y_ : List Int, y_ = (x10_2.set ((ji67) : Int).toNat (wrap64 ((rd x10_2 (ji67)) + (rd l0_3 x39_2)))) := ⟨_, rfl⟩
              replace H : (if 0 ≤ (wrap64 ((ji67) + 1)) then (if (wrap64 ((ji67) + 1)) < (x10_2.length : Int) then (if x39_2 < (l0_4.length : Int) then (impl_DestinationSums.l0 k2 a3 (y377.set ((wrap64 ((ji67) + 1)) : Int).toNat (wrap64 ((rd y377 (wrap64 ((ji67) + 1))) + (wrap64 ((rd l0_3 x39_2) * (rd l0_4 x39_2)))))) l2_1 (l2_1.length : Int) (wrap64 (x39_2 + 1)) a0_0 a0_1 a0_2 l0_3 l0_4 l0_5 l1_0 l1_1 l1_2 a1_3 a1_4 a1_5 a1_6 a1_7) else (none)) else (none)) else (none)) = some (r1, r2) := by first | (rw [hy377]; with_reducible exact H) | (have H2_ := (Option.bind_some _ _).symm.trans H; rw [hy377]; with_reducible exact H2_) | (have H2_ := (Option.bind_some _ _).symm.trans H; with_reducible exact H2_) | with_reducible exact H | (rw [hy377]; exact H) | exact H
              have Ny377 := m_ hy377
              clear hy377
              obtain ⟨ji72, hji72⟩ : ∃ j_ : Int, (wrap64 ((ji67) + 1)) = j_ := ⟨_, rfl⟩
              replace H : (if 0 ≤ (ji72) then (if (ji72) < (x10_2.length : Int) then (if x39_2 < (l0_4.length : Int) then (impl_DestinationSums.l0 k2 a3 (y377.set ((ji72) : Int).toNat (wrap64 ((rd y377 (ji72)) + (wrap64 ((rd l0_3 x39_2) * (rd l0_4 x39_2)))))) l2_1 (l2_1.length : Int) (wrap64 (x39_2 + 1)) a0_0 a0_1 a0_2 l0_3 l0_4 l0_5 l1_0 l1_1 l1_2 a1_3 a1_4 a1_5 a1_6 a1_7) else (none)) else (none)) else (none)) = some (r1, r2) := by first | (rw [hji72] at H; exact H) | (simp only [hji72] at H ⊢; exact H)
              (try rw [hji72] at A66)
              have hji72w : (IntKind.i64.wrap ((ji67) + 1)) = ji72 := (i64_w _).trans hji72
              by_cases c73 : 0 ≤ (ji72)
              ·rw [if_pos c73] at H
               have c73b0 := decide_eq_true c73
               clear c73
               by_cases c74 : (ji72) < (x10_2.length : Int)
               ·rw [if_pos c74] at H
                have c74b0 := decide_eq_true c74
                clear c74
                by_cases c75 : x39_2 < (l0_4.length : Int)
                ·rw [if_pos c75] at H
                 have c75b0 := decide_eq_true c75
                 clear c75
                 obtain ⟨y381, hy381⟩ : ∃ y_ : List Int, y_ = (y377.set ((ji72) : Int).toNat (wrap64 ((rd y377 (ji72)) + (wrap64 ((rd l0_3 x39_2) * (rd l0_4 x39_2)))))) := ⟨_, rfl⟩
                 replace H : (impl_DestinationSums.l0 k2 a3 y381 l2_1 (l2_1.length : Int) (wrap64 (x39_2 + 1)) a0_0 a0_1 a0_2 l0_3 l0_4 l0_5 l1_0 l1_1 l1_2 a1_3 a1_4 a1_5 a1_6 a1_7) = some (r1, r2) := by first | (rw [hy381]; with_reducible exact H) | (have H2_ := (Option.bind_some _ _).symm.trans H; rw [hy381]; with_reducible exact H2_) | (have H2_ := (Option.bind_some _ _).symm.trans H; with_reducible exact H2_) | with_reducible exact H | (rw [hy381]; exact H) | exact H
                 have Ny381 := m_ hy381
                 clear hy381
                 have H' := m_ H
                 clear H
                 obtain ⟨ad373, rfl, hx373_0, p373, q373⟩ := abx0 HB.out HR2_1.out x39_2
                 have hnb77 := NB363_364.out
                 have hnc77 := NB364_363.out
                 have hnb78 := NB363_365.out
                 have hnc78 := NB365_363.out
                 obtain ⟨hcz79_0, hcz79_1, hcz79_2, hcz79_3, hcz79_4, hcz79_5, hfz79_0, hfz79_1, hfz79_2, hfz79_3, hfz79_4, hfz79_5⟩ := cf6x0 BK363.out
                 have hnb80 := NB364_365.out
                 have hnc80 := NB365_364.out
                 obtain ⟨hcz81_0, hcz81_1, hcz81_2, hcz81_3, hcz81_4, hcz81_5, hcz81_6, hcz81_7, hfz81_0, hfz81_1, hfz81_2, hfz81_3, hfz81_4, hfz81_5, hfz81_6, hfz81_7⟩ := cf8x0 BK364.out
                 try go_wp2_with (first | ((with_reducible refine gate_callee (f := 44) rfl ?_); refine gLx0 (some 50) Try.func44 #[.agg #[.int .i64 a0_0, .int .i64 a0_1, .int .i64 a0_2, .slice A0_3 l0_3.length c0_3, .slice A0_4 l0_4.length c0_4, .slice A0_5 l0_5.length c0_5], .agg #[.slice A1_0 l1_0.length c1_0, .slice A1_1 l1_1.length c1_1, .slice A1_2 l1_2.length c1_2, .int .i64 a1_3, .int .i64 a1_4, .int .i64 a1_5, .int .i64 a1_6, .int .i64 a1_7], .int .i64 x39_2, .int .i64 a3] ?_; (with_reducible refine (impl_destinationOf.calls a0_0 a0_1 a0_2 _ _ l0_3 _ _ l0_4 _ _ l0_5 _ _ l1_0 _ _ l1_1 _ _ l1_2 a1_3 a1_4 a1_5 a1_6 a1_7 x39_2 a3 t374 _ ?side1 ?side2 ?side3 ?side4 ?side5 ?side6 ?side7 ?side8 ?side9 ?side10 ?side11 ?side12 A66.out).mono ?_); (case side1 => exact rCx0 (Kd.C_below HR0_3.out HB.out)); (case side2 => exact HC0_3.out); (case side3 => exact rCx0 (Kd.C_below HR0_4.out HB.out)); (case side4 => exact HC0_4.out); (case side5 => exact rCx0 (Kd.C_below HR0_5.out HB.out)); (case side6 => exact HC0_5.out); (case side7 => exact rCx0 (Kd.C_below HR1_0.out HB.out)); (case side8 => exact HC1_0.out); (case side9 => exact rCx0 (Kd.C_below HR1_1.out HB.out)); (case side10 => exact HC1_1.out); (case side11 => exact rCx0 (Kd.C_below HR1_2.out HB.out)); (case side12 => exact HC1_2.out); rintro e w82 ⟨rfl, hb⟩; refine ⟨_, rfl, ?_⟩; replace HO_10 := m_ (Kd.R_below (rRx0 HO_10.out) hb); replace BK363 := kbx0 BK363 hb; replace BK364 := kbx0 BK364 hb; replace BK365 := kbx0 BK365 hb; replace HB := m_ (below_step (be3x0 HB.out GE363.out GE364.out GE365.out) hb); (try clear hb); (try clear hb2); (try clear hk); (try clear hi)))
                 replace HO_10 := m_ (Kd.R_drew HO_10.out)
                 replace BK363 := m_ (blk_drew BK363.out)
                 replace BK364 := m_ (blk_drew BK364.out)
                 replace BK365 := m_ (blk_drew BK365.out)
                 replace HB := m_ (below_drew1 HB.out)
                 obtain ⟨Ao84, co84, eo84⟩ := Kd.R_slice HO_10.out
                 (first | subst eo84 | (injection eo84 with f1_ f2_ f3_; have f4_ := f1_.symm; have f5_ := f3_.symm; clear f1_ f2_ f3_; subst f4_; subst f5_))
                 obtain ⟨ad375, rfl, hx375_0, p375, q375⟩ := atx0 (Kd.R_reads' HO_10.out).2.2 (ji67)
                 have p376 : 0 ≤ (x39_2 : Int) := dax0
                 have q376 : x39_2 < (l0_3.length : Int) := dax0
                 obtain ⟨ad376, e376, hx376_0⟩ := Kd.at_int HR0_3.out x39_2 p376 q376
                 have hw376_0 := hx376_0
                 cases e376
                 replace hx376_0 := (HB.out.cell (World.block_lt_of_cell? w _ hx376_0)).trans hx376_0
                 replace p376 := eq_true p376
                 replace q376 := eq_true q376
                 have p71 : 0 ≤ ((ji67) : Int) := dax0
                 have q71 : ((ji67) : Int) < ((x10_2.length : Int) : Int) := dax0
                 obtain ⟨go71, co71, eo71, gb71, gl71, cl71, HG71⟩ := Kd.R_form HO_10.out (by omega)
                 (first | cases eo71 | (injection eo71 with ea_ en_ ec_; (first | subst ea_ | (injection ea_ with ea_; subst ea_)); subst ec_; clear en_))
                 have GB71 := m_ gb71
                 have GG71 := m_ HG71
                 clear gb71 gl71 HG71
                 (first | simp only [add_plain] at hx375_0 | skip)
                 obtain ⟨hx71_0, hf71_0⟩ := Kd.R_celln 0 HO_10.out ((ji67) : Int) p71 q71
                 replace p71 := eq_true p71
                 replace q71 := eq_true q71
                 have HP85 := Kd.R_putn HO_10.out ((ji67) : Int) (wrap64 ((rd x10_2 (ji67)) + (rd l0_3 x39_2)))
                 rw [← Ny377.out] at HP85
                 have HQ85 := m_ HP85
                 clear HP85
                 refine start_ (n := 13) (S := fun w' => w'.cell? ⟨gb363, 0, none⟩ = some (.int .i64 a0_0) ∧ w'.cell? ⟨gb363, 1, none⟩ = some (.int .i64 a0_1) ∧ w'.cell? ⟨gb363, 2, none⟩ = some (.int .i64 a0_2) ∧ w'.cell? ⟨gb363, 3, none⟩ = some (.slice (some ad376) l0_3.length c0_3) ∧ w'.cell? ⟨gb363, 4, none⟩ = some (.slice A0_4 l0_4.length c0_4) ∧ w'.cell? ⟨gb363, 5, none⟩ = some (.slice A0_5 l0_5.length c0_5) ∧ w'.cell? ⟨go71, ((ji67)).toNat, none⟩ = some (.int .i64 (rd x10_2 (ji67))) ∧ w'.cell? (ad376.add (x39_2).toNat) = some (.int .i64 (rd l0_3 x39_2))) (ds := [12]) (tf_ 0 13) (by kernel_rfl) rfl rfl ⟨(blk_cell BK363.out 0).trans rfl, (blk_cell BK363.out 1).trans rfl, (blk_cell BK363.out 2).trans rfl, (blk_cell BK363.out 3).trans rfl, (blk_cell BK363.out 4).trans rfl, (blk_cell BK363.out 5).trans rfl, hx375_0, ((HB.out.cell (World.block_lt_of_cell? w _ hw376_0)).trans hw376_0)⟩ (fun hHeld => ?_); refine with_tabW impl_DestinationSums.tab9 impl_DestinationSums.bits9 (fun HT_ HW_ => ?_)
                 generalize w82.drew = w83 at HO_10 BK363 BK364 BK365 HB GG71 HQ85 hf71_0 hx375_0 hx376_0 hx71_0 hHeld ⊢
                 refine pv_ 0 51 (tf_ 1 13) HT_ ?_
                 refine pv_ 1 52 (tf_ 2 13) HT_ ?_
                 refine pv_ 2 53 (tf_ 3 13) HT_ ?_
                 refine pv_ 3 54 (tf_ 4 13) HT_ ?_
                 refine pv_ 5 56 #[true, true, true, true, false, true, false, false, false, false, false, false, false] HT_ ?_
                 refine pv_ 7 58 #[true, true, true, true, false, true, false, true, false, false, false, false, false] HT_ ?_
                 refine take_ (i := 4) (N := some 55) (v := ?_) (a' := ?_) #[true, true, true, true, true, true, false, true, false, false, false, false, false] rfl rfl (take_ofW HT_.out HW_.out (by kernel_rfl)) (fun _ _ _ h => h) (Or.inl ⟨by rfl, ?_⟩) hHeld ?_ ?_
                 rotate_left
                 ·rintro w' ⟨s0, s1, s2, s3, s4, s5, s6, s7⟩
                  go_simp
                  with_reducible rfl
                 rotate_left
                 ·simp only [Act.put, List.setIfInBounds_toArray, List.set_cons_zero, List.set_cons_succ, i64_w, i32_w]
                  rfl
                 refine take_ (i := 6) (N := some 57) (v := ?_) (a' := ?_) (tf_ 8 13) rfl rfl (take_ofW HT_.out HW_.out (by kernel_rfl)) (fun _ _ _ h => h) (Or.inl ⟨by rfl, ?_⟩) hHeld ?_ ?_
                 rotate_left
                 ·rintro w' ⟨s0, s1, s2, s3, s4, s5, s6, s7⟩
                  go_simp
                  with_reducible rfl
                 rotate_left
                 ·simp only [Act.put, List.setIfInBounds_toArray, List.set_cons_zero, List.set_cons_succ, i64_w, i32_w]
                  rfl
                 refine pv_ 8 59 (tf_ 9 13) HT_ ?_
                 refine take_ (i := 9) (N := some 60) (v := ?_) (a' := ?_) (tf_ 10 13) rfl rfl (take_ofW HT_.out HW_.out (by kernel_rfl)) (fun _ _ _ h => h) (Or.inl ⟨by rfl, ?_⟩) hHeld ?_ ?_
                 rotate_left
                 ·rintro w' ⟨s0, s1, s2, s3, s4, s5, s6, s7⟩
                  go_simp
                  with_reducible rfl
                 rotate_left
                 ·simp only [Act.put, List.setIfInBounds_toArray, List.set_cons_zero, List.set_cons_succ, i64_w, i32_w]
                  rfl
                 refine pv_ 10 61 (tf_ 11 13) HT_ ?_
                 refine pv_ 11 62 (tf_ 12 13) HT_ ?_
                 refine last_ (i := 12) (N := none) (tf_ 13 13) rfl rfl (one_of HT_.out (by kernel_rfl)) (by decide) (fun K hK => ?_)
                 refine skip_ (w1 := ?_) (by rfl) rfl ?_ ?_
                 rotate_left
                 ·go_simp
                  rfl
                 refine hK.out _ _ ?_
                 clear hK K
                 refine done_ (done_of HT_.out (by kernel_rfl)) ?_
                 try go_wp2
                 have n0_ : Aside0 (Kd.R (Kd.int .i64) 3 (w83.setCell ⟨go71, ((ji67) : Int).toNat, none⟩ (.int .i64 (wrap64 ((rd x10_2 (ji67)) + (rd l0_3 x39_2))))) w.heap.size (fun _ => True) (.slice (some ⟨go71, 0, none⟩) x10_2.length co84) y377) := ⟨rRx0 HQ85.out⟩
                 have n1_ : Aside0 ((w83.setCell ⟨go71, ((ji67) : Int).toNat, none⟩ (.int .i64 (wrap64 ((rd x10_2 (ji67)) + (rd l0_3 x39_2))))).heap[gb363]? = some (.cells #[.int .i64 a0_0, .int .i64 a0_1, .int .i64 a0_2, .slice (some ad376) l0_3.length c0_3, .slice A0_4 l0_4.length c0_4, .slice A0_5 l0_5.length c0_5] 41 (0, 0))) := ⟨by (with_reducible repeat (first | refine blk_drewN ?_ _ | refine blk_drew ?_ | refine blk_alloc ?_ _)); refine blk_far ?_ (by have h_ := Kd.R_ne HO_10.out BK363.out (by decide); intro e_; exact h_ (by rw [e_]; rfl)) _; (with_reducible repeat (first | refine blk_drewN ?_ _ | refine blk_drew ?_ | refine blk_alloc ?_ _)); exact BK363.out⟩
                 have n2_ : Aside0 ((w83.setCell ⟨go71, ((ji67) : Int).toNat, none⟩ (.int .i64 (wrap64 ((rd x10_2 (ji67)) + (rd l0_3 x39_2))))).heap[gb364]? = some (.cells #[.slice A1_0 l1_0.length c1_0, .slice A1_1 l1_1.length c1_1, .slice A1_2 l1_2.length c1_2, .int .i64 a1_3, .int .i64 a1_4, .int .i64 a1_5, .int .i64 a1_6, .int .i64 a1_7] 45 (0, 0))) := ⟨by (with_reducible repeat (first | refine blk_drewN ?_ _ | refine blk_drew ?_ | refine blk_alloc ?_ _)); refine blk_far ?_ (by have h_ := Kd.R_ne HO_10.out BK364.out (by decide); intro e_; exact h_ (by rw [e_]; rfl)) _; (with_reducible repeat (first | refine blk_drewN ?_ _ | refine blk_drew ?_ | refine blk_alloc ?_ _)); exact BK364.out⟩
                 have n3_ : Aside0 ((w83.setCell ⟨go71, ((ji67) : Int).toNat, none⟩ (.int .i64 (wrap64 ((rd x10_2 (ji67)) + (rd l0_3 x39_2))))).heap[gb365]? = some (.cells #[.int .i64 a2_0, .slice (some ad373) l2_1.length c2_1] 47 (0, 0))) := ⟨by (with_reducible repeat (first | refine blk_drewN ?_ _ | refine blk_drew ?_ | refine blk_alloc ?_ _)); refine blk_far ?_ (by have h_ := Kd.R_ne HO_10.out BK365.out (by decide); intro e_; exact h_ (by rw [e_]; rfl)) _; (with_reducible repeat (first | refine blk_drewN ?_ _ | refine blk_drew ?_ | refine blk_alloc ?_ _)); exact BK365.out⟩
                 have n4_ : Aside0 (Below w.heap.size w (w83.setCell ⟨go71, ((ji67) : Int).toNat, none⟩ (.int .i64 (wrap64 ((rd x10_2 (ji67)) + (rd l0_3 x39_2)))))) := ⟨be4x0 HB.out GB71.out GE363.out GE364.out GE365.out⟩
                 (try clear HO_10)
                 (try clear BK363)
                 (try clear BK364)
                 (try clear BK365)
                 (try clear HB)
                 generalize (w83.setCell ⟨go71, ((ji67) : Int).toNat, none⟩ (.int .i64 (wrap64 ((rd x10_2 (ji67)) + (rd l0_3 x39_2))))) = w86 at n0_ n1_ n2_ n3_ n4_ ⊢
                 have HO_10 := n0_
                 have BK363 := n1_
                 have BK364 := n2_
                 have BK365 := n3_
                 have HB := n4_
                 clear n0_ n1_ n2_ n3_ n4_
                 replace HO_10 := m_ (Kd.R_drew HO_10.out)
                 replace BK363 := m_ (blk_drew BK363.out)
                 replace BK364 := m_ (blk_drew BK364.out)
                 replace BK365 := m_ (blk_drew BK365.out)
                 replace HB := m_ (below_drew1 HB.out)
                 have p378 : 0 ≤ ((ji72) : Int) := dax0
                 have q378 : (ji72) < (y377.length : Int) := (by have h_ : ((ji72) : Int) < ((x10_2.length : Int) : Int) := dax0; first | (have e_ := (Kd.R_reads' HO_10.out).1; omega) | simpa only [Ny377.out, List.length_set] using h_)
                 have ql378 : (((ji72) : Int) < ((x10_2.length : Int) : Int)) = True := eq_true dax0
                 obtain ⟨ad378, e378, hx378_0⟩ := Kd.at_int (Kd.R_reads' HO_10.out).2.2 (ji72) p378 q378
                 obtain rfl : (⟨go71, 0, none⟩ : Addr) = ad378 := (by injection e378)
                 (first | simp only [add_plain] at hx378_0 | simp only [add_at] at hx378_0 | simp only [Addr.add, Nat.zero_add] at hx378_0 | skip)
                 replace p378 := eq_true p378
                 replace q378 := eq_true q378
                 have p379 : 0 ≤ (x39_2 : Int) := dax0
                 have q379 : x39_2 < (l0_3.length : Int) := dax0
                 obtain ⟨ad379, e379, hx379_0⟩ := Kd.at_int HR0_3.out x39_2 p379 q379
                 have hw379_0 := hx379_0
                 obtain rfl : ad376 = ad379 := (by injection e379)
                 replace hx379_0 := (HB.out.cell (World.block_lt_of_cell? w _ hx379_0)).trans hx379_0
                 replace p379 := eq_true p379
                 replace q379 := eq_true q379
                 have p380 : 0 ≤ (x39_2 : Int) := dax0
                 have q380 : x39_2 < (l0_4.length : Int) := dax0
                 obtain ⟨ad380, e380, hx380_0⟩ := Kd.at_int HR0_4.out x39_2 p380 q380
                 have hw380_0 := hx380_0
                 cases e380
                 replace hx380_0 := (HB.out.cell (World.block_lt_of_cell? w _ hx380_0)).trans hx380_0
                 replace p380 := eq_true p380
                 replace q380 := eq_true q380
                 have p76 : 0 ≤ ((ji72) : Int) := dax0
                 have q76 : ((ji72) : Int) < ((x10_2.length : Int) : Int) := dax0
                 obtain ⟨hx76_0, hf76_0⟩ := Kd.R_celln 0 HO_10.out ((ji72) : Int) p76 q76
                 replace p76 := eq_true p76
                 replace q76 := eq_true q76
                 have HP88 := Kd.R_putn HO_10.out ((ji72) : Int) (wrap64 ((rd y377 (ji72)) + (wrap64 ((rd l0_3 x39_2) * (rd l0_4 x39_2)))))
                 rw [← Ny381.out] at HP88
                 have HQ88 := m_ HP88
                 clear HP88
                 refine start_ (n := 20) (S := fun w' => w'.cell? ⟨gb363, 0, none⟩ = some (.int .i64 a0_0) ∧ w'.cell? ⟨gb363, 1, none⟩ = some (.int .i64 a0_1) ∧ w'.cell? ⟨gb363, 2, none⟩ = some (.int .i64 a0_2) ∧ w'.cell? ⟨gb363, 3, none⟩ = some (.slice (some ad376) l0_3.length c0_3) ∧ w'.cell? ⟨gb363, 4, none⟩ = some (.slice (some ad380) l0_4.length c0_4) ∧ w'.cell? ⟨gb363, 5, none⟩ = some (.slice A0_5 l0_5.length c0_5) ∧ w'.cell? ⟨go71, ((ji72)).toNat, none⟩ = some (.int .i64 (rd y377 (ji72))) ∧ w'.cell? (ad376.add (x39_2).toNat) = some (.int .i64 (rd l0_3 x39_2)) ∧ w'.cell? (ad380.add (x39_2).toNat) = some (.int .i64 (rd l0_4 x39_2))) (ds := [19]) (tf_ 0 20) (by kernel_rfl) rfl rfl ⟨(blk_cell BK363.out 0).trans rfl, (blk_cell BK363.out 1).trans rfl, (blk_cell BK363.out 2).trans rfl, (blk_cell BK363.out 3).trans rfl, (blk_cell BK363.out 4).trans rfl, (blk_cell BK363.out 5).trans rfl, hx378_0, ((HB.out.cell (World.block_lt_of_cell? w _ hw379_0)).trans hw379_0), ((HB.out.cell (World.block_lt_of_cell? w _ hw380_0)).trans hw380_0)⟩ (fun hHeld => ?_); refine with_tabW impl_DestinationSums.tab10 impl_DestinationSums.bits10 (fun HT_ HW_ => ?_)
                 generalize w86.drew = w87 at HO_10 BK363 BK364 BK365 HB HQ85 HQ88 hf76_0 hx378_0 hx379_0 hx380_0 hx76_0 hHeld ⊢
                 refine pv_ 0 63 (tf_ 1 20) HT_ ?_
                 refine pv_ 1 64 (tf_ 2 20) HT_ ?_
                 refine pv_ 2 65 (tf_ 3 20) HT_ ?_
                 refine pv_ 3 66 (tf_ 4 20) HT_ ?_
                 refine pv_ 4 67 (tf_ 5 20) HT_ ?_
                 refine pv_ 6 69 #[true, true, true, true, true, false, true, false, false, false, false, false, false, false, false, false, false, false, false, false] HT_ ?_
                 refine pv_ 8 71 #[true, true, true, true, true, false, true, false, true, false, false, false, false, false, false, false, false, false, false, false] HT_ ?_
                 refine pv_ 11 74 #[true, true, true, true, true, false, true, false, true, false, false, true, false, false, false, false, false, false, false, false] HT_ ?_
                 refine pv_ 13 76 #[true, true, true, true, true, false, true, false, true, false, false, true, false, true, false, false, false, false, false, false] HT_ ?_
                 refine take_ (i := 5) (N := some 68) (v := ?_) (a' := ?_) #[true, true, true, true, true, true, true, false, true, false, false, true, false, true, false, false, false, false, false, false] rfl rfl (take_ofW HT_.out HW_.out (by kernel_rfl)) (fun _ _ _ h => h) (Or.inl ⟨by rfl, ?_⟩) hHeld ?_ ?_
                 rotate_left
                 ·rintro w' ⟨s0, s1, s2, s3, s4, s5, s6, s7, s8⟩
                  go_simp
                  with_reducible rfl
                 rotate_left
                 ·simp only [Act.put, List.setIfInBounds_toArray, List.set_cons_zero, List.set_cons_succ, i64_w, i32_w]
                  rfl
                 refine take_ (i := 7) (N := some 70) (v := ?_) (a' := ?_) #[true, true, true, true, true, true, true, true, true, false, false, true, false, true, false, false, false, false, false, false] rfl rfl (take_ofW HT_.out HW_.out (by kernel_rfl)) (fun _ _ _ h => h) (Or.inl ⟨by rfl, ?_⟩) hHeld ?_ ?_
                 rotate_left
                 ·rintro w' ⟨s0, s1, s2, s3, s4, s5, s6, s7, s8⟩
                  go_simp
                  with_reducible rfl
                 rotate_left
                 ·simp only [Act.put, List.setIfInBounds_toArray, List.set_cons_zero, List.set_cons_succ, i64_w, i32_w]
                  rfl
                 refine pv_ 9 72 #[true, true, true, true, true, true, true, true, true, true, false, true, false, true, false, false, false, false, false, false] HT_ ?_
                 refine take_ (i := 10) (N := some 73) (v := ?_) (a' := ?_) #[true, true, true, true, true, true, true, true, true, true, true, true, false, true, false, false, false, false, false, false] rfl rfl (take_ofW HT_.out HW_.out (by kernel_rfl)) (fun _ _ _ h => h) (Or.inl ⟨by rfl, ?_⟩) hHeld ?_ ?_
                 rotate_left
                 ·rintro w' ⟨s0, s1, s2, s3, s4, s5, s6, s7, s8⟩
                  go_simp
                  with_reducible rfl
                 rotate_left
                 ·simp only [Act.put, List.setIfInBounds_toArray, List.set_cons_zero, List.set_cons_succ, i64_w, i32_w]
                  rfl
                 refine take_ (i := 12) (N := some 75) (v := ?_) (a' := ?_) (tf_ 14 20) rfl rfl (take_ofW HT_.out HW_.out (by kernel_rfl)) (fun _ _ _ h => h) (Or.inl ⟨by rfl, ?_⟩) hHeld ?_ ?_
                 rotate_left
                 ·rintro w' ⟨s0, s1, s2, s3, s4, s5, s6, s7, s8⟩
                  go_simp
                  with_reducible rfl
                 rotate_left
                 ·simp only [Act.put, List.setIfInBounds_toArray, List.set_cons_zero, List.set_cons_succ, i64_w, i32_w]
                  rfl
                 refine pv_ 14 77 (tf_ 15 20) HT_ ?_
                 refine take_ (i := 15) (N := some 78) (v := ?_) (a' := ?_) (tf_ 16 20) rfl rfl (take_ofW HT_.out HW_.out (by kernel_rfl)) (fun _ _ _ h => h) (Or.inl ⟨by rfl, ?_⟩) hHeld ?_ ?_
                 rotate_left
                 ·rintro w' ⟨s0, s1, s2, s3, s4, s5, s6, s7, s8⟩
                  go_simp
                  with_reducible rfl
                 rotate_left
                 ·simp only [Act.put, List.setIfInBounds_toArray, List.set_cons_zero, List.set_cons_succ, i64_w, i32_w]
                  rfl
                 refine pv_ 16 79 (tf_ 17 20) HT_ ?_
                 refine pv_ 17 80 (tf_ 18 20) HT_ ?_
                 refine pv_ 18 81 (tf_ 19 20) HT_ ?_
                 refine last_ (i := 19) (N := none) (tf_ 20 20) rfl rfl (one_of HT_.out (by kernel_rfl)) (by decide) (fun K hK => ?_)
                 refine skip_ (w1 := ?_) (by rfl) rfl ?_ ?_
                 rotate_left
                 ·go_simp
                  rfl
                 refine hK.out _ _ ?_
                 clear hK K
                 refine done_ (done_of HT_.out (by kernel_rfl)) ?_
                 try go_wp2
                 go_roundg k2
                 case measure => have := HJ4.out; have := HK2.out; omega
                 case rel => exact ⟨(y381), (wrap64 (x39_2 + 1)), frx0, H', ⟨by have := HJ4.out; have := HK2.out; omega⟩, ⟨rRx0 HQ88.out⟩, ⟨by (with_reducible repeat (first | refine blk_drewN ?_ _ | refine blk_drew ?_ | refine blk_alloc ?_ _)); refine blk_far ?_ (by have h_ := Kd.R_ne HO_10.out BK363.out (by decide); intro e_; exact h_ (by rw [e_]; rfl)) _; (with_reducible repeat (first | refine blk_drewN ?_ _ | refine blk_drew ?_ | refine blk_alloc ?_ _)); exact BK363.out⟩, ⟨by (with_reducible repeat (first | refine blk_drewN ?_ _ | refine blk_drew ?_ | refine blk_alloc ?_ _)); refine blk_far ?_ (by have h_ := Kd.R_ne HO_10.out BK364.out (by decide); intro e_; exact h_ (by rw [e_]; rfl)) _; (with_reducible repeat (first | refine blk_drewN ?_ _ | refine blk_drew ?_ | refine blk_alloc ?_ _)); exact BK364.out⟩, ⟨by (with_reducible repeat (first | refine blk_drewN ?_ _ | refine blk_drew ?_ | refine blk_alloc ?_ _)); refine blk_far ?_ (by have h_ := Kd.R_ne HO_10.out BK365.out (by decide); intro e_; exact h_ (by rw [e_]; rfl)) _; (with_reducible repeat (first | refine blk_drewN ?_ _ | refine blk_drew ?_ | refine blk_alloc ?_ _)); exact BK365.out⟩, ⟨be4x0 HB.out GB71.out GE363.out GE364.out GE365.out⟩⟩
                ·rw [if_neg c75] at H
                 exact absurd H (by simp)
               ·rw [if_neg c74] at H
                exact absurd H (by simp)
              ·rw [if_neg c73] at H
               exact absurd H (by simp)
             ·rw [if_neg c70] at H
              exact absurd H (by simp)
            ·rw [if_neg c69] at H
             exact absurd H (by simp)
           ·rw [if_neg c68] at H
            exact absurd H (by simp)
          ·rw [if_neg c65] at H
           have c65b0 : decide (0 ≤ (rd l2_1 x39_2)) = false := decide_eq_false c65
           clear c65
           have H' := m_ H
           clear H
           obtain ⟨ad373, rfl, hx373_0, p373, q373⟩ := abx0 HB.out HR2_1.out x39_2
           go_wp2
           go_roundg k2
           case measure => have := HJ4.out; have := HK2.out; omega
           case rel => exact ⟨(x10_2), (wrap64 (x39_2 + 1)), frx0, H', ⟨by have := HJ4.out; have := HK2.out; omega⟩, ⟨rRx0 HO_10.out⟩, ⟨rBx0 BK363.out⟩, ⟨rBx0 BK364.out⟩, ⟨rBx0 BK365.out⟩, ⟨be3x0 HB.out GE363.out GE364.out GE365.out⟩⟩
         ·rw [if_neg c64] at H
          exact absurd H (by simp)
        ·rw [if_neg c63] at H
         exact absurd H (by simp)
       ·rw [if_neg c62] at H
        have c62b0 := decide_eq_false c62
        clear c62
        simp only [Option.some.injEq, Prod.mk.injEq] at H
        obtain ⟨rfl, rfl⟩ := H
        go_wp2
        go_ret2
        exact ⟨_, by first | rfl | (simp [errW_none, errW_some] <;> rfl) | (simp [*, errW_none, errW_some] <;> rfl), rRx0 HO_10.out, be3x0 HB.out GE363.out GE364.out GE365.out⟩
    ·rw [if_neg c56] at H
     exact absurd H (by simp)

end Go.Proofs.Ytloddihakhgcdaa.PFnExactDestinationSums
