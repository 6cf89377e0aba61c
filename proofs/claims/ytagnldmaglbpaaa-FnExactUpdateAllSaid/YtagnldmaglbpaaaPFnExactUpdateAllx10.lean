/- This text is this session's own, not the print's: programs (wip/squeeze.py and others) made it out of what print.sh, or wip/ownprint.py, had written (BYTES set higher), its facts said by short words. -/
import Derived.Test.YtagnldmaglbpaaaPFnExactUpdateAllx0
import Derived.Test.YtagnldmaglbpaaaPFnExactUpdateAllx6
import Derived.Test.YtagnldmaglbpaaaPFnExactUpdateAllx7
import Derived.Test.YtagnldmaglbpaaaPFnExactUpdateAllx8
import Derived.Test.YtagnldmaglbpaaaPFnExactUpdateAllx9
namespace Go.Proofs.Ytagnldmaglbpaaa.PFnExactUpdateAll
open Go.RowKit Go.Proofs.YtagnldmaglbpaaaW.PrintWords Go.Proofs.YtagnldmaglbpaaaW.PrintLast Go.Proofs.YtagnldmaglbpaaaW.PrintMore
attribute [local go_sem] max2_int min2_int max_two min_two max_three min_three max_four min_four   -- for this text's walks alone
set_option linter.unusedVariables false
set_option linter.unusedSimpArgs false

/-! ### impl_UpdateAll: function 64 -/
theorem bb6x10 {W W' : World} {g b t : Nat} {cs : Array Value} (h : W.heap[b]? = some (.cells cs t (0, 0))) (hn : b ≠ g) (k : (∀ (i0 i1 i2 i3 i4 i5 : Nat) (a0 a1 a2 a3 a4 a5 : Value), ((((((W.setCell ⟨g, i0, none⟩ a0).setCell ⟨g, i1, none⟩ a1).setCell ⟨g, i2, none⟩ a2).setCell ⟨g, i3, none⟩ a3).setCell ⟨g, i4, none⟩ a4).setCell ⟨g, i5, none⟩ a5).heap[b]? = some (.cells cs t (0, 0))) → W'.heap[b]? = some (.cells cs t (0, 0)) := by intro h; (with_reducible repeat (first | refine blk_drewN ?_ _ | refine blk_drew ?_ | refine blk_alloc ?_ _)); exact h _ _ _ _ _ _ _ _ _ _ _ _) : W'.heap[b]? = some (.cells cs t (0, 0)) := k (fun i0 i1 i2 i3 i4 i5 a0 a1 a2 a3 a4 a5 => blk_far (p := ⟨g, i5, none⟩) (blk_far (p := ⟨g, i4, none⟩) (blk_far (p := ⟨g, i3, none⟩) (blk_far (p := ⟨g, i2, none⟩) (blk_far (p := ⟨g, i1, none⟩) (blk_far (p := ⟨g, i0, none⟩) (h) hn a0) hn a1) hn a2) hn a3) hn a4) hn a5)
theorem be0x10 {b : Nat} {W0 W W' : World} (h : Below b W0 W) (k : Below b W0 W → Below b W0 W' := by intro h ; repeat (first | (with_reducible first | exact h | apply below_alloc | apply pw_below_drewN | apply below_drew1) | exact h)) : Below b W0 W' := k h 
theorem be1x10 {b : Nat} {W0 W W' : World} {g0 : Nat} (h : Below b W0 W) (q0 : b ≤ g0) (k : Below b W0 W → b ≤ g0 → Below b W0 W' := by intro h q0; repeat (first | (with_reducible first | exact h | apply below_alloc | apply pw_below_drewN | apply below_drew1 | refine below_set ?_ q0) | exact h)) : Below b W0 W' := k h q0
theorem be2x10 {b : Nat} {W0 W W' : World} {g0 g1 : Nat} (h : Below b W0 W) (q0 : b ≤ g0) (q1 : b ≤ g1) (k : Below b W0 W → b ≤ g0 → b ≤ g1 → Below b W0 W' := by intro h q0 q1; repeat (first | (with_reducible first | exact h | apply below_alloc | apply pw_below_drewN | apply below_drew1 | refine below_set ?_ q0 | refine below_set ?_ q1) | exact h)) : Below b W0 W' := k h q0 q1
theorem be3x10 {b : Nat} {W0 W W' : World} {g0 g1 g2 : Nat} (h : Below b W0 W) (q0 : b ≤ g0) (q1 : b ≤ g1) (q2 : b ≤ g2) (k : Below b W0 W → b ≤ g0 → b ≤ g1 → b ≤ g2 → Below b W0 W' := by intro h q0 q1 q2; repeat (first | (with_reducible first | exact h | apply below_alloc | apply pw_below_drewN | apply below_drew1 | refine below_set ?_ q0 | refine below_set ?_ q1 | refine below_set ?_ q2) | exact h)) : Below b W0 W' := k h q0 q1 q2
theorem be4x10 {b : Nat} {W0 W W' : World} {g0 g1 g2 g3 : Nat} (h : Below b W0 W) (q0 : b ≤ g0) (q1 : b ≤ g1) (q2 : b ≤ g2) (q3 : b ≤ g3) (k : Below b W0 W → b ≤ g0 → b ≤ g1 → b ≤ g2 → b ≤ g3 → Below b W0 W' := by intro h q0 q1 q2 q3; repeat (first | (with_reducible first | exact h | apply below_alloc | apply pw_below_drewN | apply below_drew1 | refine below_set ?_ q0 | refine below_set ?_ q1 | refine below_set ?_ q2 | refine below_set ?_ q3) | exact h)) : Below b W0 W' := k h q0 q1 q2 q3
theorem cc6x10 {W : World} {g t : Nat} {a0 a1 a2 a3 a4 a5 : Value} (h : W.heap[g]? = some (.cells #[a0, a1, a2, a3, a4, a5] t (0, 0))) : W.cell? ⟨g, 0, none⟩ = some a0 ∧ W.cell? ⟨g, 1, none⟩ = some a1 ∧ W.cell? ⟨g, 2, none⟩ = some a2 ∧ W.cell? ⟨g, 3, none⟩ = some a3 ∧ W.cell? ⟨g, 4, none⟩ = some a4 ∧ W.cell? ⟨g, 5, none⟩ = some a5 := ⟨(blk_cell h 0).trans rfl, (blk_cell h 1).trans rfl, (blk_cell h 2).trans rfl, (blk_cell h 3).trans rfl, (blk_cell h 4).trans rfl, (blk_cell h 5).trans rfl⟩
theorem cf6x10 {W : World} {g t : Nat} {a0 a1 a2 a3 a4 a5 : Value} (h : W.heap[g]? = some (.cells #[a0, a1, a2, a3, a4, a5] t (0, 0))) : W.cell? ⟨g, 0, none⟩ = some a0 ∧ W.cell? ⟨g, 1, none⟩ = some a1 ∧ W.cell? ⟨g, 2, none⟩ = some a2 ∧ W.cell? ⟨g, 3, none⟩ = some a3 ∧ W.cell? ⟨g, 4, none⟩ = some a4 ∧ W.cell? ⟨g, 5, none⟩ = some a5 ∧ W.frozen? ⟨g, 0, none⟩ = false ∧ W.frozen? ⟨g, 1, none⟩ = false ∧ W.frozen? ⟨g, 2, none⟩ = false ∧ W.frozen? ⟨g, 3, none⟩ = false ∧ W.frozen? ⟨g, 4, none⟩ = false ∧ W.frozen? ⟨g, 5, none⟩ = false := ⟨(blk_cell h 0).trans rfl, (blk_cell h 1).trans rfl, (blk_cell h 2).trans rfl, (blk_cell h 3).trans rfl, (blk_cell h 4).trans rfl, (blk_cell h 5).trans rfl, blk_frozen h 0, blk_frozen h 1, blk_frozen h 2, blk_frozen h 3, blk_frozen h 4, blk_frozen h 5⟩
theorem mpx10 {P : Prop} (h : P := by (try simp only [List.map_toArray, List.map_cons, List.map_nil]); first | done | rfl | (simp only [List.length_drop, List.length_take]; rfl)) : P := h
theorem rBx10 {W W' : World} {g t : Nat} {cs : Array Value} (h : W.heap[g]? = some (.cells cs t (0, 0))) (k : W.heap[g]? = some (.cells cs t (0, 0)) → W'.heap[g]? = some (.cells cs t (0, 0)) := by intro h; (with_reducible repeat (first | refine blk_drewN ?_ _ | refine blk_drew ?_ | refine blk_alloc ?_ _)); exact h) : W'.heap[g]? = some (.cells cs t (0, 0)) := k h
theorem rCx10 {α : Type} {d : Kd α} {W W' : World} {A : Option Addr} {n : Nat} {xs : List α} (h : d.C W A n xs) (k : d.C W A n xs → d.C W' A n xs := by intro h; repeat (first | exact h | (with_reducible refine Kd.C_alloc ?_ _) | (with_reducible refine Kd.C_drewN ?_ _) | (with_reducible refine Kd.C_drew ?_))) : d.C W' A n xs := k h
theorem rRx10 {α : Type} {d : Kd α} {e base : Nat} {ok : Nat → Prop} {W W' : World} {v : Value} {xs : List α} (h : d.R e W base ok v xs) (k : d.R e W base ok v xs → d.R e W' base ok v xs := by intro h; (with_reducible repeat (first | apply Kd.R_alloc | apply Kd.R_drewN | apply Kd.R_drew)); exact h) : d.R e W' base ok v xs := k h
mutual
def impl_UpdateAll.j0 : Nat → List (S120) → Int → Bool → Int → Int → Int → List Int → List Int → List Int → Option (Int × Int × Int × List Int × List Int × List Int × Bool)
 | 0, _, _, _, _, _, _, _, _, _ => none
 | k + 1, x1, x2, x30, x325000, x325001, x325002, x325003, x325004, x325005 => if x30 = true then (some (0, 0, 0, ([] : List Int), ([] : List Int), ([] : List Int), false)) else ((impl_copyModel.f x325000 x325001 x325002 x325003 x325004 x325005).bind fun bt328 => (impl_UpdateAll.l0 k x1 x2 (bt328.2.2.2.2.1.length : Int) 0 x325000 x325001 x325002 x325003 x325004 x325005 bt328.1 bt328.2.1 bt328.2.2.1 bt328.2.2.2.1 bt328.2.2.2.2.1 bt328.2.2.2.2.2))
def impl_UpdateAll.l0 : Nat → List (S120) → Int → Int → Int → Int → Int → Int → List Int → List Int → List Int → Int → Int → Int → List Int → List Int → List Int → Option (Int × Int × Int × List Int × List Int × List Int × Bool)
 | 0, _, _, _, _, _, _, _, _, _, _, _, _, _, _, _, _ => none
 | k + 1, x1, x2, x36, x37, x325000, x325001, x325002, x325003, x325004, x325005, x341000, x341001, x341002, x341003, x341004, x341005 => if x37 < x36 then ((impl_estimateBlock.f k x325000 x325001 x325002 x1 x37 x2).bind fun bt341 => (if bt341.2.2 = true then (if (wrap64 (2 * bt341.2.1)) = 0 then (none) else (if 0 ≤ x37 then (if x37 < (x341004.length : Int) then (impl_UpdateAll.l0 k x1 x2 x36 (wrap64 (x37 + 1)) x325000 x325001 x325002 x325003 x325004 x325005 x341000 x341001 x341002 x341003 (x341004.set (x37 : Int).toNat (wrap64 (Int.tdiv (wrap64 ((wrap64 (2 * bt341.1)) + bt341.2.1)) (wrap64 (2 * bt341.2.1))))) x341005) else (none)) else (none))) else (impl_UpdateAll.l0 k x1 x2 x36 (wrap64 (x37 + 1)) x325000 x325001 x325002 x325003 x325004 x325005 x341000 x341001 x341002 x341003 x341004 x341005))) else (some (x341000, x341001, x341002, x341003, x341004, x341005, true))
end
def impl_UpdateAll.f (k : Nat) (a0_0 : Int) (a0_1 : Int) (a0_2 : Int) (l0_3 : List Int) (l0_4 : List Int) (l0_5 : List Int) (l1 : List (S120)) (a2 : Int) : Option (Int × Int × Int × List Int × List Int × List Int × Bool) := (impl_IsModel.f k a0_0 a0_1 a0_2 l0_3 l0_4 l0_5).bind fun t326 => (if t326 = true then ((impl_areHoles.f k a0_0 a0_1 a0_2 l1).bind fun t327 => (if t327 = true then (if a2 < 0 then (impl_UpdateAll.j0 k l1 a2 true a0_0 a0_1 a0_2 l0_3 l0_4 l0_5) else (impl_UpdateAll.j0 k l1 a2 (decide (a2 > 5)) a0_0 a0_1 a0_2 l0_3 l0_4 l0_5)) else (impl_UpdateAll.j0 k l1 a2 true a0_0 a0_1 a0_2 l0_3 l0_4 l0_5))) else (impl_UpdateAll.j0 k l1 a2 true a0_0 a0_1 a0_2 l0_3 l0_4 l0_5))
theorem impl_UpdateAll.mono_l : ∀ k, (∀ y0 y1 y2 y3 y4 y5 y6 y7 y8, LeO (impl_UpdateAll.j0 k y0 y1 y2 y3 y4 y5 y6 y7 y8) (impl_UpdateAll.j0 (k + 1) y0 y1 y2 y3 y4 y5 y6 y7 y8)) ∧ (∀ y0 y1 y2 y3 y4 y5 y6 y7 y8 y9 y10 y11 y12 y13 y14 y15, LeO (impl_UpdateAll.l0 k y0 y1 y2 y3 y4 y5 y6 y7 y8 y9 y10 y11 y12 y13 y14 y15) (impl_UpdateAll.l0 (k + 1) y0 y1 y2 y3 y4 y5 y6 y7 y8 y9 y10 y11 y12 y13 y14 y15))
 | 0 => ⟨fun _ _ _ _ _ _ _ _ _ r h => by simp [impl_UpdateAll.j0] at h, fun _ _ _ _ _ _ _ _ _ _ _ _ _ _ _ _ r h => by simp [impl_UpdateAll.l0] at h⟩
 | k + 1 => by
  obtain ⟨ih0, ih1⟩ := impl_UpdateAll.mono_l k
  refine ⟨?_, ?_⟩
  ·intro y0 y1 y2 y3 y4 y5 y6 y7 y8
   unfold impl_UpdateAll.j0
   repeat' first
   | (with_reducible exact ih0 _ _ _ _ _ _ _ _ _)
   | (with_reducible exact ih1 _ _ _ _ _ _ _ _ _ _ _ _ _ _ _ _)
   | (with_reducible exact impl_IsModel.mono _ _ _ _ _ _ _)
   | (with_reducible exact impl_areHoles.mono _ _ _ _ _)
   | (with_reducible exact impl_estimateBlock.mono _ _ _ _ _ _ _)
   | (with_reducible exact LeO.refl _)
   | (with_reducible exact LeO.none _)
   | (with_reducible refine LeO.ite ?_ ?_)
   | (with_reducible refine LeO.bind ?_ (fun _ => ?_))
   | exact ih0 _ _ _ _ _ _ _ _ _
   | exact ih1 _ _ _ _ _ _ _ _ _ _ _ _ _ _ _ _
   | exact impl_IsModel.mono _ _ _ _ _ _ _
   | exact impl_areHoles.mono _ _ _ _ _
   | exact impl_estimateBlock.mono _ _ _ _ _ _ _
   | exact LeO.none _
   | refine LeO.ite ?_ ?_
   | refine LeO.bind ?_ (fun _ => ?_)
  ·intro y0 y1 y2 y3 y4 y5 y6 y7 y8 y9 y10 y11 y12 y13 y14 y15
   unfold impl_UpdateAll.l0
   repeat' first
   | (with_reducible exact ih0 _ _ _ _ _ _ _ _ _)
   | (with_reducible exact ih1 _ _ _ _ _ _ _ _ _ _ _ _ _ _ _ _)
   | (with_reducible exact impl_IsModel.mono _ _ _ _ _ _ _)
   | (with_reducible exact impl_areHoles.mono _ _ _ _ _)
   | (with_reducible exact impl_estimateBlock.mono _ _ _ _ _ _ _)
   | (with_reducible exact LeO.refl _)
   | (with_reducible exact LeO.none _)
   | (with_reducible refine LeO.ite ?_ ?_)
   | (with_reducible refine LeO.bind ?_ (fun _ => ?_))
   | exact ih0 _ _ _ _ _ _ _ _ _
   | exact ih1 _ _ _ _ _ _ _ _ _ _ _ _ _ _ _ _
   | exact impl_IsModel.mono _ _ _ _ _ _ _
   | exact impl_areHoles.mono _ _ _ _ _
   | exact impl_estimateBlock.mono _ _ _ _ _ _ _
   | exact LeO.none _
   | refine LeO.ite ?_ ?_
   | refine LeO.bind ?_ (fun _ => ?_)
theorem impl_UpdateAll.mono : ∀ a0 a1 a2 a3 a4 a5 a6 a7 k, LeO (impl_UpdateAll.f k a0 a1 a2 a3 a4 a5 a6 a7) (impl_UpdateAll.f (k + 1) a0 a1 a2 a3 a4 a5 a6 a7) := by
 intro a0 a1 a2 a3 a4 a5 a6 a7 k
 obtain ⟨ih0, ih1⟩ := impl_UpdateAll.mono_l k
 unfold impl_UpdateAll.f
 repeat' first
   | (with_reducible exact ih0 _ _ _ _ _ _ _ _ _)
   | (with_reducible exact ih1 _ _ _ _ _ _ _ _ _ _ _ _ _ _ _ _)
   | (with_reducible exact impl_IsModel.mono _ _ _ _ _ _ _)
   | (with_reducible exact impl_areHoles.mono _ _ _ _ _)
   | (with_reducible exact impl_estimateBlock.mono _ _ _ _ _ _ _)
   | (with_reducible exact LeO.refl _)
   | (with_reducible exact LeO.none _)
   | (with_reducible refine LeO.ite ?_ ?_)
   | (with_reducible refine LeO.bind ?_ (fun _ => ?_))
   | exact ih0 _ _ _ _ _ _ _ _ _
   | exact ih1 _ _ _ _ _ _ _ _ _ _ _ _ _ _ _ _
   | exact impl_IsModel.mono _ _ _ _ _ _ _
   | exact impl_areHoles.mono _ _ _ _ _
   | exact impl_estimateBlock.mono _ _ _ _ _ _ _
   | exact LeO.none _
   | refine LeO.ite ?_ ?_
   | refine LeO.bind ?_ (fun _ => ?_)
def impl_UpdateAll.T9 : Bool × List (List Nat × List Nat) := (true, [([], []), ([0], [0]), ([], []), ([], []), ([3], [3]), ([], []), ([4, 5], [4, 5]), ([], []), ([7], [7]), ([6, 8], [6, 8]), ([1, 2, 0, 1, 2, 3, 4, 5, 6, 7, 8, 9], [1, 2]), ([10, 9, 0, 1, 2, 3, 4, 5, 6, 7, 8, 9], [9, 10])])
def impl_UpdateAll.B9 : List Nat := [0, 1, 0, 0, 8, 0, 56, 0, 128, 504, 1023, 2047]
theorem impl_UpdateAll.tab9 : rtab .any (opsOf Try.f64 9) = impl_UpdateAll.T9 := by kernel_rfl
theorem impl_UpdateAll.bits9 : waitsOk impl_UpdateAll.T9.2 impl_UpdateAll.B9 = true := by kernel_rfl
set_option maxHeartbeats 8000000 in
set_option maxRecDepth 100000 in
theorem impl_UpdateAll.calls (k : Nat) (a0_0 : Int) (a0_1 : Int) (a0_2 : Int) (A0_3 : Option Addr) (c0_3 : Nat) (l0_3 : List Int) (A0_4 : Option Addr) (c0_4 : Nat) (l0_4 : List Int) (A0_5 : Option Addr) (c0_5 : Nat) (l0_5 : List Int) (A1 : Option Addr) (c1 : Nat) (l1 : List (S120)) (a2 : Int) (r1 : Int) (r2 : Int) (r3 : Int) (r4 : List Int) (r5 : List Int) (r6 : List Int) (r7 : Bool) (w : World) (hr0_3 : Kd.C (Kd.int .i64) w A0_3 l0_3.length l0_3) (hc0_3 : l0_3.length ≤ c0_3) (hr0_4 : Kd.C (Kd.int .i64) w A0_4 l0_4.length l0_4) (hc0_4 : l0_4.length ≤ c0_4) (hr0_5 : Kd.C (Kd.int .i64) w A0_5 l0_5.length l0_5) (hc0_5 : l0_5.length ≤ c0_5) (hr1 : Kd.C k120 w A1 l1.length l1) (hc1 : l1.length ≤ c1) (h : impl_UpdateAll.f k a0_0 a0_1 a0_2 l0_3 l0_4 l0_5 l1 a2 = some (r1, r2, r3, r4, r5, r6, r7)) :
  Calls Try.prog 64 #[.agg #[.int .i64 a0_0, .int .i64 a0_1, .int .i64 a0_2, .slice A0_3 l0_3.length c0_3, .slice A0_4 l0_4.length c0_4, .slice A0_5 l0_5.length c0_5], .slice A1 l1.length c1, .int .i64 a2] w fun e w' => ∃ v3_ v4_ v5_ : Value, e = .returned (.tuple #[.agg #[.int .i64 r1, .int .i64 r2, .int .i64 r3, v3_, v4_, v5_], .bool r7]) ∧ Kd.R (Kd.int .i64) 3 w' w.heap.size (fun k_ => some k_ ≠ (v4_ : Value).ownBlock ∧ some k_ ≠ (v5_ : Value).ownBlock) v3_ r4 ∧ Kd.R (Kd.int .i64) 3 w' w.heap.size (fun k_ => some k_ ≠ (v3_ : Value).ownBlock ∧ some k_ ≠ (v5_ : Value).ownBlock) v4_ r5 ∧ Kd.R (Kd.int .i64) 3 w' w.heap.size (fun k_ => some k_ ≠ (v3_ : Value).ownBlock ∧ some k_ ≠ (v4_ : Value).ownBlock) v5_ r6 ∧ Below w.heap.size w w' := by
 have hu41 := Try.underlying41
 have hu39 := Try.underlying39
 have HR0_3 := Aside0.mk hr0_3
 have HC0_3 := Aside0.mk hc0_3
 clear hr0_3 hc0_3
 have HR0_4 := Aside0.mk hr0_4
 have HC0_4 := Aside0.mk hc0_4
 clear hr0_4 hc0_4
 have HR0_5 := Aside0.mk hr0_5
 have HC0_5 := Aside0.mk hc0_5
 clear hr0_5 hc0_5
 have HR1 := Aside0.mk hr1
 have HC1 := Aside0.mk hc1
 clear hr1 hc1
 have HB := Aside0.mk (Below.refl w.heap.size w)
 have H : ((impl_IsModel.f k a0_0 a0_1 a0_2 l0_3 l0_4 l0_5).bind fun t326 => (if t326 = true then ((impl_areHoles.f k a0_0 a0_1 a0_2 l1).bind fun t327 => (if t327 = true then (if a2 < 0 then (impl_UpdateAll.j0 k l1 a2 true a0_0 a0_1 a0_2 l0_3 l0_4 l0_5) else (impl_UpdateAll.j0 k l1 a2 (decide (a2 > 5)) a0_0 a0_1 a0_2 l0_3 l0_4 l0_5)) else (impl_UpdateAll.j0 k l1 a2 true a0_0 a0_1 a0_2 l0_3 l0_4 l0_5))) else (impl_UpdateAll.j0 k l1 a2 true a0_0 a0_1 a0_2 l0_3 l0_4 l0_5))) = some (r1, r2, r3, r4, r5, r6, r7) := h
 clear h
 have HC4 := Aside0.mk H
 clear H
 go_enter Try.func64, Try.ntmps64
 go_upto_region 1 with (first | ((with_reducible refine gate_dst (N := 3) rfl ?_); refine box_event ?hg (N := 3) ?hd (cs := #[.int .i64 a0_0, .int .i64 a0_1, .int .i64 a0_2, .slice A0_3 l0_3.length c0_3, .slice A0_4 l0_4.length c0_4, .slice A0_5 l0_5.length c0_5]) (t := 41) ?hr ?_; (case hd => rfl); (case hg => rfl); (case hr => first | (go_simp; done) | (go_simp; rfl)); intro gb324 hg w5 hbox hb; have BK324 := Aside0.mk (hbox); have GW324 := Aside0.mk ((by rw [hg]; exact (below_size (be0x10 HB.out)) : w.heap.size ≤ gb324)); have GE324 := Aside0.mk ((by rw [hg]; exact (below_size (be0x10 HB.out)) : w.heap.size ≤ gb324)); replace HB := Aside0.mk (below_step (be0x10 HB.out) hb); clear hb hbox hg) | ((with_reducible refine gate_dst (N := 6) rfl ?_); refine box_event ?hg (N := 6) ?hd (cs := #[.int .i64 0, .int .i64 0, .int .i64 0, .slice none 0 0, .slice none 0 0, .slice none 0 0]) (t := 41) ?hr ?_; (case hd => rfl); (case hg => rfl); (case hr => first | (go_simp; done) | (go_simp; rfl)); intro gb325 hg w6 hbox hb; have BK325 := Aside0.mk (hbox); have GW325 := Aside0.mk ((by rw [hg]; exact (below_size (be1x10 HB.out GE324.out)) : w.heap.size ≤ gb325)); have GE325 := Aside0.mk ((by rw [hg]; exact (below_size (be1x10 HB.out GE324.out)) : w.heap.size ≤ gb325)); replace HB := Aside0.mk (below_step (be1x10 HB.out GE324.out) hb); have NB324_325 := Aside0.mk ((by rw [hg]; exact Nat.ne_of_lt (blk_lt (rBx10 BK324.out)) : gb324 ≠ gb325)); have NB325_324 := Aside0.mk ((by rw [hg]; exact Nat.ne_of_gt (blk_lt (rBx10 BK324.out)) : gb325 ≠ gb324)); replace BK324 := Aside0.mk (blk_below (rBx10 BK324.out) hb); clear hb hbox hg))
 (try simp only [Act.put, List.setIfInBounds_toArray, List.set_cons_zero, List.set_cons_succ])
 go_cut [30] (fun v30 wc => ∃ (kq : Nat) (x30_3 : Bool), v30 = .bool x30_3 ∧ Aside0 (impl_UpdateAll.j0 kq l1 a2 x30_3 a0_0 a0_1 a0_2 l0_3 l0_4 l0_5 = some (r1, r2, r3, r4, r5, r6, r7)) ∧ Aside0 (kq ≤ k) ∧ Aside0 (wc.heap[gb324]? = some (.cells #[.int .i64 a0_0, .int .i64 a0_1, .int .i64 a0_2, (.slice A0_3 l0_3.length c0_3), (.slice A0_4 l0_4.length c0_4), (.slice A0_5 l0_5.length c0_5)] 41 (0, 0))) ∧ Aside0 (wc.heap[gb325]? = some (.cells #[.int .i64 0, .int .i64 0, .int .i64 0, (.slice none 0 0), (.slice none 0 0), (.slice none 0 0)] 41 (0, 0))) ∧ Aside0 (Below w.heap.size w wc))
 case first =>
  have H := HC4.out
  clear HC4
  replace H := Option.bind_eq_some_iff.mp H
  obtain ⟨t326, A70, H⟩ := H
  have A7 := Aside0.mk A70
  clear A70
  by_cases c8 : t326 = true
  ·subst c8
   have H1 : ((impl_areHoles.f k a0_0 a0_1 a0_2 l1).bind fun t327 => (if t327 = true then (if a2 < 0 then (impl_UpdateAll.j0 k l1 a2 true a0_0 a0_1 a0_2 l0_3 l0_4 l0_5) else (impl_UpdateAll.j0 k l1 a2 (decide (a2 > 5)) a0_0 a0_1 a0_2 l0_3 l0_4 l0_5)) else (impl_UpdateAll.j0 k l1 a2 true a0_0 a0_1 a0_2 l0_3 l0_4 l0_5))) = some (r1, r2, r3, r4, r5, r6, r7) := by rw [if_pos rfl] at H; exact H
   clear H
   have H := H1
   clear H1
   replace H := Option.bind_eq_some_iff.mp H
   obtain ⟨t327, A90, H⟩ := H
   have A9 := Aside0.mk A90
   clear A90
   by_cases c10 : t327 = true
   ·subst c10
    have H1 : (if a2 < 0 then (impl_UpdateAll.j0 k l1 a2 true a0_0 a0_1 a0_2 l0_3 l0_4 l0_5) else (impl_UpdateAll.j0 k l1 a2 (decide (a2 > 5)) a0_0 a0_1 a0_2 l0_3 l0_4 l0_5)) = some (r1, r2, r3, r4, r5, r6, r7) := by rw [if_pos rfl] at H; exact H
    clear H
    have H := H1
    clear H1
    by_cases c11 : a2 < 0
    ·rw [if_pos c11] at H
     have c11b0 : decide (a2 < 0) = true := decide_eq_true c11
     clear c11
     (first | rw [c11b0] | (simp only [i64_w, i32_w]; rw [c11b0]) | skip)
     have H' := Aside0.mk H
     clear H
     have hnb12 := NB324_325.out
     have hnc12 := NB325_324.out
     obtain ⟨hcz13_0, hcz13_1, hcz13_2, hcz13_3, hcz13_4, hcz13_5, hfz13_0, hfz13_1, hfz13_2, hfz13_3, hfz13_4, hfz13_5⟩ := cf6x10 BK324.out
     go_wp2_with (first | ((with_reducible refine gate_callee (f := 89) rfl ?_); refine goesL_ (some 14) rfl rfl Try.func89 (by kernel_rfl) rfl #[.agg #[.int .i64 a0_0, .int .i64 a0_1, .int .i64 a0_2, .slice A0_3 l0_3.length c0_3, .slice A0_4 l0_4.length c0_4, .slice A0_5 l0_5.length c0_5]] rfl mpx10 ?_; (with_reducible refine (impl_IsModel.calls k a0_0 a0_1 a0_2 _ _ l0_3 _ _ l0_4 _ _ l0_5 true _ ?side1 ?side2 ?side3 ?side4 ?side5 ?side6 A7.out).mono ?_); (case side1 => exact rCx10 (Kd.C_below HR0_3.out HB.out)); (case side2 => exact HC0_3.out); (case side3 => exact rCx10 (Kd.C_below HR0_4.out HB.out)); (case side4 => exact HC0_4.out); (case side5 => exact rCx10 (Kd.C_below HR0_5.out HB.out)); (case side6 => exact HC0_5.out); rintro e w14 ⟨rfl, hb⟩; refine ⟨_, rfl, ?_⟩; replace BK324 := Aside0.mk (blk_below (rBx10 BK324.out) hb); replace BK325 := Aside0.mk (blk_below (rBx10 BK325.out) hb); replace HB := Aside0.mk (below_step (be2x10 HB.out GE324.out GE325.out) hb); (try clear hb); (try clear hb2); (try clear hk); (try clear hi); obtain ⟨hcz15_0, hcz15_1, hcz15_2, hcz15_3, hcz15_4, hcz15_5, hfz15_0, hfz15_1, hfz15_2, hfz15_3, hfz15_4, hfz15_5⟩ := cf6x10 BK324.out) | (go_at_call 106; (with_reducible refine (impl_areHoles.calls k a0_0 a0_1 a0_2 _ _ l1 true _ ?side1 ?side2 A9.out).mono ?_); (case side1 => exact rCx10 (Kd.C_below HR1.out HB.out)); (case side2 => exact HC1.out); rintro e w16 ⟨rfl, hb⟩; replace BK324 := Aside0.mk (blk_below (rBx10 BK324.out) hb); replace BK325 := Aside0.mk (blk_below (rBx10 BK325.out) hb); replace HB := Aside0.mk (below_step (be2x10 HB.out GE324.out GE325.out) hb); (try clear hb); (try clear hb2); (try clear hk); (try clear hi)))
     go_meet
     case rel => exact ⟨_, (true), (by first | rfl | (simp; done) | (simp [*]; done)), H', ⟨by first | omega | exact Nat.le_refl _⟩, ⟨rBx10 BK324.out⟩, ⟨rBx10 BK325.out⟩, ⟨be2x10 HB.out GE324.out GE325.out⟩⟩
    ·rw [if_neg c11] at H
     have c11b0 : decide (a2 < 0) = false := decide_eq_false c11
     clear c11
     (first | rw [c11b0] | (simp only [i64_w, i32_w]; rw [c11b0]) | skip)
     have H' := Aside0.mk H
     clear H
     have hnb17 := NB324_325.out
     have hnc17 := NB325_324.out
     obtain ⟨hcz18_0, hcz18_1, hcz18_2, hcz18_3, hcz18_4, hcz18_5, hfz18_0, hfz18_1, hfz18_2, hfz18_3, hfz18_4, hfz18_5⟩ := cf6x10 BK324.out
     go_wp2_with (first | ((with_reducible refine gate_callee (f := 89) rfl ?_); refine goesL_ (some 14) rfl rfl Try.func89 (by kernel_rfl) rfl #[.agg #[.int .i64 a0_0, .int .i64 a0_1, .int .i64 a0_2, .slice A0_3 l0_3.length c0_3, .slice A0_4 l0_4.length c0_4, .slice A0_5 l0_5.length c0_5]] rfl mpx10 ?_; (with_reducible refine (impl_IsModel.calls k a0_0 a0_1 a0_2 _ _ l0_3 _ _ l0_4 _ _ l0_5 true _ ?side1 ?side2 ?side3 ?side4 ?side5 ?side6 A7.out).mono ?_); (case side1 => exact rCx10 (Kd.C_below HR0_3.out HB.out)); (case side2 => exact HC0_3.out); (case side3 => exact rCx10 (Kd.C_below HR0_4.out HB.out)); (case side4 => exact HC0_4.out); (case side5 => exact rCx10 (Kd.C_below HR0_5.out HB.out)); (case side6 => exact HC0_5.out); rintro e w19 ⟨rfl, hb⟩; refine ⟨_, rfl, ?_⟩; replace BK324 := Aside0.mk (blk_below (rBx10 BK324.out) hb); replace BK325 := Aside0.mk (blk_below (rBx10 BK325.out) hb); replace HB := Aside0.mk (below_step (be2x10 HB.out GE324.out GE325.out) hb); (try clear hb); (try clear hb2); (try clear hk); (try clear hi); obtain ⟨hcz20_0, hcz20_1, hcz20_2, hcz20_3, hcz20_4, hcz20_5, hfz20_0, hfz20_1, hfz20_2, hfz20_3, hfz20_4, hfz20_5⟩ := cf6x10 BK324.out) | (go_at_call 106; (with_reducible refine (impl_areHoles.calls k a0_0 a0_1 a0_2 _ _ l1 true _ ?side1 ?side2 A9.out).mono ?_); (case side1 => exact rCx10 (Kd.C_below HR1.out HB.out)); (case side2 => exact HC1.out); rintro e w21 ⟨rfl, hb⟩; replace BK324 := Aside0.mk (blk_below (rBx10 BK324.out) hb); replace BK325 := Aside0.mk (blk_below (rBx10 BK325.out) hb); replace HB := Aside0.mk (below_step (be2x10 HB.out GE324.out GE325.out) hb); (try clear hb); (try clear hb2); (try clear hk); (try clear hi)))
     go_meet
     case rel => exact ⟨_, (decide (a2 > 5)), (by first | rfl | (simp; done) | (simp [*]; done)), H', ⟨by first | omega | exact Nat.le_refl _⟩, ⟨rBx10 BK324.out⟩, ⟨rBx10 BK325.out⟩, ⟨be2x10 HB.out GE324.out GE325.out⟩⟩
   ·replace c10 := Bool.eq_false_iff.mpr c10
    subst c10
    have H1 : (impl_UpdateAll.j0 k l1 a2 true a0_0 a0_1 a0_2 l0_3 l0_4 l0_5) = some (r1, r2, r3, r4, r5, r6, r7) := by rw [if_neg (show ¬ (false = true) by decide)] at H; exact H
    clear H
    have H := H1
    clear H1
    have H' := Aside0.mk H
    clear H
    have hnb22 := NB324_325.out
    have hnc22 := NB325_324.out
    obtain ⟨hcz23_0, hcz23_1, hcz23_2, hcz23_3, hcz23_4, hcz23_5, hfz23_0, hfz23_1, hfz23_2, hfz23_3, hfz23_4, hfz23_5⟩ := cf6x10 BK324.out
    go_wp2_with (first | ((with_reducible refine gate_callee (f := 89) rfl ?_); refine goesL_ (some 14) rfl rfl Try.func89 (by kernel_rfl) rfl #[.agg #[.int .i64 a0_0, .int .i64 a0_1, .int .i64 a0_2, .slice A0_3 l0_3.length c0_3, .slice A0_4 l0_4.length c0_4, .slice A0_5 l0_5.length c0_5]] rfl mpx10 ?_; (with_reducible refine (impl_IsModel.calls k a0_0 a0_1 a0_2 _ _ l0_3 _ _ l0_4 _ _ l0_5 true _ ?side1 ?side2 ?side3 ?side4 ?side5 ?side6 A7.out).mono ?_); (case side1 => exact rCx10 (Kd.C_below HR0_3.out HB.out)); (case side2 => exact HC0_3.out); (case side3 => exact rCx10 (Kd.C_below HR0_4.out HB.out)); (case side4 => exact HC0_4.out); (case side5 => exact rCx10 (Kd.C_below HR0_5.out HB.out)); (case side6 => exact HC0_5.out); rintro e w24 ⟨rfl, hb⟩; refine ⟨_, rfl, ?_⟩; replace BK324 := Aside0.mk (blk_below (rBx10 BK324.out) hb); replace BK325 := Aside0.mk (blk_below (rBx10 BK325.out) hb); replace HB := Aside0.mk (below_step (be2x10 HB.out GE324.out GE325.out) hb); (try clear hb); (try clear hb2); (try clear hk); (try clear hi); obtain ⟨hcz25_0, hcz25_1, hcz25_2, hcz25_3, hcz25_4, hcz25_5, hfz25_0, hfz25_1, hfz25_2, hfz25_3, hfz25_4, hfz25_5⟩ := cf6x10 BK324.out) | (go_at_call 106; (with_reducible refine (impl_areHoles.calls k a0_0 a0_1 a0_2 _ _ l1 false _ ?side1 ?side2 A9.out).mono ?_); (case side1 => exact rCx10 (Kd.C_below HR1.out HB.out)); (case side2 => exact HC1.out); rintro e w26 ⟨rfl, hb⟩; replace BK324 := Aside0.mk (blk_below (rBx10 BK324.out) hb); replace BK325 := Aside0.mk (blk_below (rBx10 BK325.out) hb); replace HB := Aside0.mk (below_step (be2x10 HB.out GE324.out GE325.out) hb); (try clear hb); (try clear hb2); (try clear hk); (try clear hi)))
    go_meet
    case rel => exact ⟨_, (true), (by first | rfl | (simp; done) | (simp [*]; done)), H', ⟨by first | omega | exact Nat.le_refl _⟩, ⟨rBx10 BK324.out⟩, ⟨rBx10 BK325.out⟩, ⟨be2x10 HB.out GE324.out GE325.out⟩⟩
  ·replace c8 := Bool.eq_false_iff.mpr c8
   subst c8
   have H1 : (impl_UpdateAll.j0 k l1 a2 true a0_0 a0_1 a0_2 l0_3 l0_4 l0_5) = some (r1, r2, r3, r4, r5, r6, r7) := by rw [if_neg (show ¬ (false = true) by decide)] at H; exact H
   clear H
   have H := H1
   clear H1
   have H' := Aside0.mk H
   clear H
   have hnb27 := NB324_325.out
   have hnc27 := NB325_324.out
   obtain ⟨hcz28_0, hcz28_1, hcz28_2, hcz28_3, hcz28_4, hcz28_5, hfz28_0, hfz28_1, hfz28_2, hfz28_3, hfz28_4, hfz28_5⟩ := cf6x10 BK324.out
   go_wp2_with (first | ((with_reducible refine gate_callee (f := 89) rfl ?_); refine goesL_ (some 14) rfl rfl Try.func89 (by kernel_rfl) rfl #[.agg #[.int .i64 a0_0, .int .i64 a0_1, .int .i64 a0_2, .slice A0_3 l0_3.length c0_3, .slice A0_4 l0_4.length c0_4, .slice A0_5 l0_5.length c0_5]] rfl mpx10 ?_; (with_reducible refine (impl_IsModel.calls k a0_0 a0_1 a0_2 _ _ l0_3 _ _ l0_4 _ _ l0_5 false _ ?side1 ?side2 ?side3 ?side4 ?side5 ?side6 A7.out).mono ?_); (case side1 => exact rCx10 (Kd.C_below HR0_3.out HB.out)); (case side2 => exact HC0_3.out); (case side3 => exact rCx10 (Kd.C_below HR0_4.out HB.out)); (case side4 => exact HC0_4.out); (case side5 => exact rCx10 (Kd.C_below HR0_5.out HB.out)); (case side6 => exact HC0_5.out); rintro e w29 ⟨rfl, hb⟩; refine ⟨_, rfl, ?_⟩; replace BK324 := Aside0.mk (blk_below (rBx10 BK324.out) hb); replace BK325 := Aside0.mk (blk_below (rBx10 BK325.out) hb); replace HB := Aside0.mk (below_step (be2x10 HB.out GE324.out GE325.out) hb); (try clear hb); (try clear hb2); (try clear hk); (try clear hi)))
   go_meet
   case rel => exact ⟨_, (true), (by first | rfl | (simp; done) | (simp [*]; done)), H', ⟨by first | omega | exact Nat.le_refl _⟩, ⟨rBx10 BK324.out⟩, ⟨rBx10 BK325.out⟩, ⟨be2x10 HB.out GE324.out GE325.out⟩⟩
 case rest =>
  clear HC4
  try clear c1; try clear c8; try clear c10; try clear c11; try clear c11b0; try clear hcz13_0 hcz13_1 hcz13_2 hcz13_3 hcz13_4 hcz13_5; try clear hcz15_0 hcz15_1 hcz15_2 hcz15_3 hcz15_4 hcz15_5; try clear hcz18_0 hcz18_1 hcz18_2 hcz18_3 hcz18_4 hcz18_5; try clear hcz20_0 hcz20_1 hcz20_2 hcz20_3 hcz20_4 hcz20_5; try clear hcz23_0 hcz23_1 hcz23_2 hcz23_3 hcz23_4 hcz23_5; try clear hcz25_0 hcz25_1 hcz25_2 hcz25_3 hcz25_4 hcz25_5; try clear hcz28_0 hcz28_1 hcz28_2 hcz28_3 hcz28_4 hcz28_5; try clear hfz13_0 hfz13_1 hfz13_2 hfz13_3 hfz13_4 hfz13_5; try clear hfz15_0 hfz15_1 hfz15_2 hfz15_3 hfz15_4 hfz15_5; try clear hfz18_0 hfz18_1 hfz18_2 hfz18_3 hfz18_4 hfz18_5; try clear hfz20_0 hfz20_1 hfz20_2 hfz20_3 hfz20_4 hfz20_5; try clear hfz23_0 hfz23_1 hfz23_2 hfz23_3 hfz23_4 hfz23_5; try clear hfz25_0 hfz25_1 hfz25_2 hfz25_3 hfz25_4 hfz25_5; try clear hfz28_0 hfz28_1 hfz28_2 hfz28_3 hfz28_4 hfz28_5
  obtain ⟨kq, x30_3, rfl, HA, HJ3, BK324, BK325, HB⟩ := hcut
  cases kq with
  | zero => exact absurd HA.out (by simp [impl_UpdateAll.j0])
  | succ kj3 =>
   have H := HA.out
   clear HA
   simp only [impl_UpdateAll.j0] at H
   by_cases c30 : x30_3 = true
   ·subst c30
    have H1 : (some (0, 0, 0, ([] : List Int), ([] : List Int), ([] : List Int), false)) = some (r1, r2, r3, r4, r5, r6, r7) := by rw [if_pos rfl] at H; exact H
    clear H
    have H := H1
    clear H1
    simp only [Option.some.injEq, Prod.mk.injEq] at H
    obtain ⟨rfl, rfl, rfl, rfl, rfl, rfl, rfl⟩ := H
    have hnb31 := NB325_324.out
    have hnc31 := NB324_325.out
    obtain ⟨hcz32_0, hcz32_1, hcz32_2, hcz32_3, hcz32_4, hcz32_5, hfz32_0, hfz32_1, hfz32_2, hfz32_3, hfz32_4, hfz32_5⟩ := cf6x10 BK325.out
    go_wp2
    refine bodyPost_ret (results_ct rfl _ _ gb325 41 #[.int .i64 0, .int .i64 0, .int .i64 0, .slice none 0 0, .slice none 0 0, .slice none 0 0] (0, 0) _ rfl (by (with_reducible repeat (first | refine blk_drewN ?_ _ | refine blk_drew ?_ | refine blk_alloc ?_ _)); refine blk_put (cs := #[.int .i64 0, .int .i64 0, .int .i64 0, .slice none 0 0, .slice none 0 0, .slice none 0 0]) ?_ 5 _ rfl; (with_reducible repeat (first | refine blk_drewN ?_ _ | refine blk_drew ?_ | refine blk_alloc ?_ _)); refine blk_put (cs := #[.int .i64 0, .int .i64 0, .int .i64 0, .slice none 0 0, .slice none 0 0, .slice none 0 0]) ?_ 4 _ rfl; (with_reducible repeat (first | refine blk_drewN ?_ _ | refine blk_drew ?_ | refine blk_alloc ?_ _)); refine blk_put (cs := #[.int .i64 0, .int .i64 0, .int .i64 0, .slice none 0 0, .slice none 0 0, .slice none 0 0]) ?_ 3 _ rfl; (with_reducible repeat (first | refine blk_drewN ?_ _ | refine blk_drew ?_ | refine blk_alloc ?_ _)); refine blk_put (cs := #[.int .i64 0, .int .i64 0, .int .i64 0, .slice none 0 0, .slice none 0 0, .slice none 0 0]) ?_ 2 _ rfl; (with_reducible repeat (first | refine blk_drewN ?_ _ | refine blk_drew ?_ | refine blk_alloc ?_ _)); refine blk_put (cs := #[.int .i64 0, .int .i64 0, .int .i64 0, .slice none 0 0, .slice none 0 0, .slice none 0 0]) ?_ 1 _ rfl; (with_reducible repeat (first | refine blk_drewN ?_ _ | refine blk_drew ?_ | refine blk_alloc ?_ _)); refine blk_put (cs := #[.int .i64 0, .int .i64 0, .int .i64 0, .slice none 0 0, .slice none 0 0, .slice none 0 0]) ?_ 0 _ rfl; (with_reducible repeat (first | refine blk_drewN ?_ _ | refine blk_drew ?_ | refine blk_alloc ?_ _)); exact BK325.out) Try.underlying41 rfl (by kernel_rfl)) rfl ?_
    exact ⟨_, _, _, by first | rfl | (simp [errW_none, errW_some] <;> rfl) | (simp [*, errW_none, errW_some] <;> rfl), by first | exact Kd.R_nil _ _ _ _ _ | exact Kd.N_nil _ _ _ _ _ | exact Kd.V_nil _ _ _ _ _ | exact Kd.Q_nil _ _ _ _ _ | exact Kd.S_nil _ _ _ _ _, by first | exact Kd.R_nil _ _ _ _ _ | exact Kd.N_nil _ _ _ _ _ | exact Kd.V_nil _ _ _ _ _ | exact Kd.Q_nil _ _ _ _ _ | exact Kd.S_nil _ _ _ _ _, by first | exact Kd.R_nil _ _ _ _ _ | exact Kd.N_nil _ _ _ _ _ | exact Kd.V_nil _ _ _ _ _ | exact Kd.Q_nil _ _ _ _ _ | exact Kd.S_nil _ _ _ _ _, be2x10 HB.out GE324.out GE325.out⟩
   ·replace c30 := Bool.eq_false_iff.mpr c30
    subst c30
    have H1 : ((impl_copyModel.f a0_0 a0_1 a0_2 l0_3 l0_4 l0_5).bind fun bt328 => (impl_UpdateAll.l0 kj3 l1 a2 (bt328.2.2.2.2.1.length : Int) 0 a0_0 a0_1 a0_2 l0_3 l0_4 l0_5 bt328.1 bt328.2.1 bt328.2.2.1 bt328.2.2.2.1 bt328.2.2.2.2.1 bt328.2.2.2.2.2)) = some (r1, r2, r3, r4, r5, r6, r7) := by rw [if_neg (show ¬ (false = true) by decide)] at H; exact H
    clear H
    have H := H1
    clear H1
    replace H := Option.bind_eq_some_iff.mp H
    obtain ⟨⟨t328, t329, t330, t331, t334, t337⟩, A330, H⟩ := H
    (try dsimp only at H)
    have A33 := Aside0.mk A330
    clear A330
    have H' := Aside0.mk H
    clear H
    have hnb34 := NB324_325.out
    have hnc34 := NB325_324.out
    obtain ⟨hcz35_0, hcz35_1, hcz35_2, hcz35_3, hcz35_4, hcz35_5, hfz35_0, hfz35_1, hfz35_2, hfz35_3, hfz35_4, hfz35_5⟩ := cf6x10 BK324.out
    go_wp2_with (first | ((with_reducible refine gate_callee (f := 86) rfl ?_); refine goesL_ (some 33) rfl rfl Try.func86 (by kernel_rfl) rfl #[.agg #[.int .i64 a0_0, .int .i64 a0_1, .int .i64 a0_2, .slice A0_3 l0_3.length c0_3, .slice A0_4 l0_4.length c0_4, .slice A0_5 l0_5.length c0_5]] rfl mpx10 ?_; (with_reducible refine (impl_copyModel.calls a0_0 a0_1 a0_2 _ _ l0_3 _ _ l0_4 _ _ l0_5 t328 t329 t330 t331 t334 t337 _ ?side1 ?side2 ?side3 ?side4 ?side5 ?side6 A33.out).mono ?_); (case side1 => exact rCx10 (Kd.C_below HR0_3.out HB.out)); (case side2 => exact HC0_3.out); (case side3 => exact rCx10 (Kd.C_below HR0_4.out HB.out)); (case side4 => exact HC0_4.out); (case side5 => exact rCx10 (Kd.C_below HR0_5.out HB.out)); (case side6 => exact HC0_5.out); rintro e w36 ⟨v332, v335, v338, rfl, ho0, ho1, ho2, hb⟩; refine ⟨_, rfl, ?_⟩; have HO333 := Aside0.mk (Kd.R_lower ho0 (below_size (be2x10 HB.out GE324.out GE325.out))); have HO336 := Aside0.mk (Kd.R_lower ho1 (below_size (be2x10 HB.out GE324.out GE325.out))); have HO339 := Aside0.mk (Kd.R_lower ho2 (below_size (be2x10 HB.out GE324.out GE325.out))); replace BK324 := Aside0.mk (blk_below (rBx10 BK324.out) hb); replace BK325 := Aside0.mk (blk_below (rBx10 BK325.out) hb); replace HB := Aside0.mk (below_step (be2x10 HB.out GE324.out GE325.out) hb); (try clear hb); (try clear hb2); (try clear hk); (try clear hi); (try clear ho0); (try clear ho1); (try clear ho2)) | ((with_reducible refine gate_dst (N := 8) rfl ?_); refine box_event ?hg (N := 8) ?hd (cs := #[.int .i64 0, .int .i64 0, .int .i64 0, .slice none 0 0, .slice none 0 0, .slice none 0 0]) (t := 41) ?hr ?_; (case hd => rfl); (case hg => rfl); (case hr => first | (go_simp; done) | (go_simp; rfl)); intro gb340 hg w37 hbox hb; replace HO333 := Aside0.mk (Kd.R_below (rRx10 HO333.out) hb); replace HO336 := Aside0.mk (Kd.R_below (rRx10 HO336.out) hb); replace HO339 := Aside0.mk (Kd.R_below (rRx10 HO339.out) hb); have BK340 := Aside0.mk (hbox); have GW340 := Aside0.mk ((by rw [hg]; exact (below_size (be2x10 HB.out GE324.out GE325.out)) : w.heap.size ≤ gb340)); have GE340 := Aside0.mk ((by rw [hg]; exact (below_size (be2x10 HB.out GE324.out GE325.out)) : w.heap.size ≤ gb340)); replace HB := Aside0.mk (below_step (be2x10 HB.out GE324.out GE325.out) hb); have NB324_340 := Aside0.mk ((by rw [hg]; exact Nat.ne_of_lt (blk_lt (rBx10 BK324.out)) : gb324 ≠ gb340)); have NB340_324 := Aside0.mk ((by rw [hg]; exact Nat.ne_of_gt (blk_lt (rBx10 BK324.out)) : gb340 ≠ gb324)); replace BK324 := Aside0.mk (blk_below (rBx10 BK324.out) hb); have NB325_340 := Aside0.mk ((by rw [hg]; exact Nat.ne_of_lt (blk_lt (rBx10 BK325.out)) : gb325 ≠ gb340)); have NB340_325 := Aside0.mk ((by rw [hg]; exact Nat.ne_of_gt (blk_lt (rBx10 BK325.out)) : gb340 ≠ gb325)); replace BK325 := Aside0.mk (blk_below (rBx10 BK325.out) hb); clear hb hbox hg; have hnb38 := NB340_324.out; have hnc38 := NB324_340.out; have hnb39 := NB340_325.out; have hnc39 := NB325_340.out; obtain ⟨hcz40_0, hcz40_1, hcz40_2, hcz40_3, hcz40_4, hcz40_5, hfz40_0, hfz40_1, hfz40_2, hfz40_3, hfz40_4, hfz40_5⟩ := cf6x10 BK340.out; obtain ⟨Ao41, co41, eo41⟩ := Kd.R_slice HO333.out; subst eo41; obtain ⟨Ao42, co42, eo42⟩ := Kd.R_slice HO336.out; subst eo42; obtain ⟨Ao43, co43, eo43⟩ := Kd.R_slice HO339.out; subst eo43))
    go_loopg [37] kj3 (fun kq v37 w' => ∃ (x37_2 : Int) (x341003_2 : List Int) (x341004_2 : List Int) (x341005_2 : List Int) (u341003 : Value) (u341004 : Value) (u341005 : Value), v37 = .int .i64 x37_2 ∧ Aside0 (impl_UpdateAll.l0 kq l1 a2 (t334.length : Int) x37_2 a0_0 a0_1 a0_2 l0_3 l0_4 l0_5 t328 t329 t330 x341003_2 x341004_2 x341005_2 = some (r1, r2, r3, r4, r5, r6, r7)) ∧ Aside0 (kq ≤ kj3) ∧ Aside0 (Kd.R (Kd.int .i64) 3 w' w.heap.size (fun k_ => some k_ ≠ (u341004 : Value).ownBlock ∧ some k_ ≠ (u341005 : Value).ownBlock) u341003 x341003_2) ∧ Aside0 (Kd.R (Kd.int .i64) 3 w' w.heap.size (fun k_ => some k_ ≠ (u341003 : Value).ownBlock ∧ some k_ ≠ (u341005 : Value).ownBlock) u341004 x341004_2) ∧ Aside0 (Kd.R (Kd.int .i64) 3 w' w.heap.size (fun k_ => some k_ ≠ (u341003 : Value).ownBlock ∧ some k_ ≠ (u341004 : Value).ownBlock) u341005 x341005_2) ∧ Aside0 (w'.heap[gb324]? = some (.cells #[.int .i64 a0_0, .int .i64 a0_1, .int .i64 a0_2, (.slice A0_3 l0_3.length c0_3), (.slice A0_4 l0_4.length c0_4), (.slice A0_5 l0_5.length c0_5)] 41 (0, 0))) ∧ Aside0 (w'.heap[gb325]? = some (.cells #[.int .i64 0, .int .i64 0, .int .i64 0, (.slice none 0 0), (.slice none 0 0), (.slice none 0 0)] 41 (0, 0))) ∧ Aside0 (w'.heap[gb340]? = some (.cells #[.int .i64 t328, .int .i64 t329, .int .i64 t330, u341003, u341004, u341005] 41 (0, 0))) ∧ Aside0 (Below w.heap.size w w'))
    case atStart => exact ⟨(0), (t331), (t334), (t337), (.slice Ao41 t331.length co41), (.slice Ao42 t334.length co42), (.slice Ao43 t337.length co43), (by first | rfl | (simp; done) | (simp [*]; done)), H', ⟨Nat.le_refl _⟩, ⟨by (with_reducible repeat (first | apply Kd.R_alloc | apply Kd.R_drewN | apply Kd.R_drew)); exact Kd.R_mono (Kd.R_far (p := ⟨gb340, 5, none⟩) (Kd.R_far (p := ⟨gb340, 4, none⟩) (Kd.R_far (p := ⟨gb340, 3, none⟩) (Kd.R_far (p := ⟨gb340, 2, none⟩) (Kd.R_far (p := ⟨gb340, 1, none⟩) (Kd.R_far (p := ⟨gb340, 0, none⟩) (Kd.R_types HO333.out BK340.out (by decide)) (fun _ hk => hk.2) (.int .i64 t328)) (fun _ hk => hk.2) (.int .i64 t329)) (fun _ hk => hk.2) (.int .i64 t330)) (fun _ hk => hk.2) (.slice Ao41 t331.length co41)) (fun _ hk => hk.2) (.slice Ao42 t334.length co42)) (fun _ hk => hk.2) (.slice Ao43 t337.length co43)) (fun _ hk => ⟨hk.1.1, hk.1.2⟩)⟩, ⟨by (with_reducible repeat (first | apply Kd.R_alloc | apply Kd.R_drewN | apply Kd.R_drew)); exact Kd.R_mono (Kd.R_far (p := ⟨gb340, 5, none⟩) (Kd.R_far (p := ⟨gb340, 4, none⟩) (Kd.R_far (p := ⟨gb340, 3, none⟩) (Kd.R_far (p := ⟨gb340, 2, none⟩) (Kd.R_far (p := ⟨gb340, 1, none⟩) (Kd.R_far (p := ⟨gb340, 0, none⟩) (Kd.R_types HO336.out BK340.out (by decide)) (fun _ hk => hk.2) (.int .i64 t328)) (fun _ hk => hk.2) (.int .i64 t329)) (fun _ hk => hk.2) (.int .i64 t330)) (fun _ hk => hk.2) (.slice Ao41 t331.length co41)) (fun _ hk => hk.2) (.slice Ao42 t334.length co42)) (fun _ hk => hk.2) (.slice Ao43 t337.length co43)) (fun _ hk => ⟨hk.1.1, hk.1.2⟩)⟩, ⟨by (with_reducible repeat (first | apply Kd.R_alloc | apply Kd.R_drewN | apply Kd.R_drew)); exact Kd.R_mono (Kd.R_far (p := ⟨gb340, 5, none⟩) (Kd.R_far (p := ⟨gb340, 4, none⟩) (Kd.R_far (p := ⟨gb340, 3, none⟩) (Kd.R_far (p := ⟨gb340, 2, none⟩) (Kd.R_far (p := ⟨gb340, 1, none⟩) (Kd.R_far (p := ⟨gb340, 0, none⟩) (Kd.R_types HO339.out BK340.out (by decide)) (fun _ hk => hk.2) (.int .i64 t328)) (fun _ hk => hk.2) (.int .i64 t329)) (fun _ hk => hk.2) (.int .i64 t330)) (fun _ hk => hk.2) (.slice Ao41 t331.length co41)) (fun _ hk => hk.2) (.slice Ao42 t334.length co42)) (fun _ hk => hk.2) (.slice Ao43 t337.length co43)) (fun _ hk => ⟨hk.1.1, hk.1.2⟩)⟩, ⟨(bb6x10 BK324.out NB324_340.out)⟩, ⟨(bb6x10 BK325.out NB325_340.out)⟩, ⟨by (with_reducible repeat (first | refine blk_drewN ?_ _ | refine blk_drew ?_ | refine blk_alloc ?_ _)); refine blk_put (cs := #[.int .i64 t328, .int .i64 t329, .int .i64 t330, .slice Ao41 t331.length co41, .slice Ao42 t334.length co42, .slice none 0 0]) ?_ 5 _ rfl; (with_reducible repeat (first | refine blk_drewN ?_ _ | refine blk_drew ?_ | refine blk_alloc ?_ _)); refine blk_put (cs := #[.int .i64 t328, .int .i64 t329, .int .i64 t330, .slice Ao41 t331.length co41, .slice none 0 0, .slice none 0 0]) ?_ 4 _ rfl; (with_reducible repeat (first | refine blk_drewN ?_ _ | refine blk_drew ?_ | refine blk_alloc ?_ _)); refine blk_put (cs := #[.int .i64 t328, .int .i64 t329, .int .i64 t330, .slice none 0 0, .slice none 0 0, .slice none 0 0]) ?_ 3 _ rfl; (with_reducible repeat (first | refine blk_drewN ?_ _ | refine blk_drew ?_ | refine blk_alloc ?_ _)); refine blk_put (cs := #[.int .i64 t328, .int .i64 t329, .int .i64 0, .slice none 0 0, .slice none 0 0, .slice none 0 0]) ?_ 2 _ rfl; (with_reducible repeat (first | refine blk_drewN ?_ _ | refine blk_drew ?_ | refine blk_alloc ?_ _)); refine blk_put (cs := #[.int .i64 t328, .int .i64 0, .int .i64 0, .slice none 0 0, .slice none 0 0, .slice none 0 0]) ?_ 1 _ rfl; (with_reducible repeat (first | refine blk_drewN ?_ _ | refine blk_drew ?_ | refine blk_alloc ?_ _)); refine blk_put (cs := #[.int .i64 0, .int .i64 0, .int .i64 0, .slice none 0 0, .slice none 0 0, .slice none 0 0]) ?_ 0 _ rfl; (with_reducible repeat (first | refine blk_drewN ?_ _ | refine blk_drew ?_ | refine blk_alloc ?_ _)); exact BK340.out⟩, ⟨be3x10 HB.out GE324.out GE325.out GE340.out⟩⟩
    case round =>
     clear H'
     try clear c30; try clear hcz32_0 hcz32_1 hcz32_2 hcz32_3 hcz32_4 hcz32_5; try clear hcz35_0 hcz35_1 hcz35_2 hcz35_3 hcz35_4 hcz35_5; try clear hcz40_0 hcz40_1 hcz40_2 hcz40_3 hcz40_4 hcz40_5; try clear hfz32_0 hfz32_1 hfz32_2 hfz32_3 hfz32_4 hfz32_5; try clear hfz35_0 hfz35_1 hfz35_2 hfz35_3 hfz35_4 hfz35_5; try clear hfz40_0 hfz40_1 hfz40_2 hfz40_3 hfz40_4 hfz40_5
     obtain ⟨x37_2, x341003_2, x341004_2, x341005_2, u341003, u341004, u341005, rfl, HA, HK2, HO_341003, HO_341004, HO_341005, BK324, BK325, BK340, HB⟩ := hrel
     cases gk with
     | zero => exact absurd HA.out (by simp [impl_UpdateAll.l0])
     | succ k2 =>
      have H := HA.out
      clear HA
      simp only [impl_UpdateAll.l0] at H
      by_cases c44 : x37_2 < (t334.length : Int)
      ·rw [if_pos c44] at H
       have c44b0 : decide (x37_2 < (t334.length : Int)) = true := decide_eq_true c44
       clear c44
       replace H := Option.bind_eq_some_iff.mp H
       obtain ⟨⟨t341, t342, t343⟩, A450, H⟩ := H
       (try dsimp only at H)
       have A45 := Aside0.mk A450
       clear A450
       by_cases c46 : t343 = true
       ·subst c46
        have H1 : (if (wrap64 (2 * t342)) = 0 then (none) else (if 0 ≤ x37_2 then (if x37_2 < (x341004_2.length : Int) then (impl_UpdateAll.l0 k2 l1 a2 (t334.length : Int) (wrap64 (x37_2 + 1)) a0_0 a0_1 a0_2 l0_3 l0_4 l0_5 t328 t329 t330 x341003_2 (x341004_2.set (x37_2 : Int).toNat (wrap64 (Int.tdiv (wrap64 ((wrap64 (2 * t341)) + t342)) (wrap64 (2 * t342))))) x341005_2) else (none)) else (none))) = some (r1, r2, r3, r4, r5, r6, r7) := by rw [if_pos rfl] at H; exact H
        clear H
        have H := H1
        clear H1
        by_cases c47 : (wrap64 (2 * t342)) = 0
        ·rw [if_pos c47] at H
         exact absurd H (by simp)
        ·rw [if_neg c47] at H
         have c47b0 : ((wrap64 (2 * t342)) == 0) = false := beq_eq_false_iff_ne.mpr c47
         have c47b1 : ((wrap64 (2 * t342)) != 0) = true := bne_iff_ne.mpr c47
         by_cases c48 : 0 ≤ x37_2
         ·rw [if_pos c48] at H
          have c48b0 : decide (0 ≤ x37_2) = true := decide_eq_true c48
          clear c48
          by_cases c49 : x37_2 < (x341004_2.length : Int)
          ·rw [if_pos c49] at H
           have c49b0 : decide (x37_2 < (x341004_2.length : Int)) = true := decide_eq_true c49
           clear c49
           obtain ⟨y344, hy344⟩ : ∃ y_ : List Int, y_ = (x341004_2.set (x37_2 : Int).toNat (wrap64 (Int.tdiv (wrap64 ((wrap64 (2 * t341)) + t342)) (wrap64 (2 * t342))))) := ⟨_, rfl⟩
           replace H : (impl_UpdateAll.l0 k2 l1 a2 (t334.length : Int) (wrap64 (x37_2 + 1)) a0_0 a0_1 a0_2 l0_3 l0_4 l0_5 t328 t329 t330 x341003_2 y344 x341005_2) = some (r1, r2, r3, r4, r5, r6, r7) := by first | (rw [hy344]; with_reducible exact H) | (have H2_ := (Option.bind_some _ _).symm.trans H; rw [hy344]; with_reducible exact H2_) | (have H2_ := (Option.bind_some _ _).symm.trans H; with_reducible exact H2_) | with_reducible exact H | (rw [hy344]; exact H) | exact H
           have Ny344 := Aside0.mk hy344
           clear hy344
           have H' := Aside0.mk H
           clear H
           have hnb51 := NB324_325.out
           have hnc51 := NB325_324.out
           have hnb52 := NB324_340.out
           have hnc52 := NB340_324.out
           obtain ⟨hcz53_0, hcz53_1, hcz53_2, hcz53_3, hcz53_4, hcz53_5, hfz53_0, hfz53_1, hfz53_2, hfz53_3, hfz53_4, hfz53_5⟩ := cf6x10 BK324.out
           try go_wp2_with (first | ((with_reducible refine gate_callee (f := 114) rfl ?_); refine goesL_ (some 46) rfl rfl Try.func114 (by kernel_rfl) rfl #[.agg #[.int .i64 a0_0, .int .i64 a0_1, .int .i64 a0_2], .slice A1 l1.length c1, .int .i64 x37_2, .int .i64 a2] rfl mpx10 ?_; (with_reducible refine (impl_estimateBlock.calls k2 a0_0 a0_1 a0_2 _ _ l1 x37_2 a2 t341 t342 true _ ?side1 ?side2 A45.out).mono ?_); (case side1 => exact rCx10 (Kd.C_below HR1.out HB.out)); (case side2 => exact HC1.out); rintro e w54 ⟨rfl, hb⟩; refine ⟨_, rfl, ?_⟩; replace HO_341003 := Aside0.mk (Kd.R_below (rRx10 HO_341003.out) hb); replace HO_341004 := Aside0.mk (Kd.R_below (rRx10 HO_341004.out) hb); replace HO_341005 := Aside0.mk (Kd.R_below (rRx10 HO_341005.out) hb); replace BK324 := Aside0.mk (blk_below (rBx10 BK324.out) hb); replace BK325 := Aside0.mk (blk_below (rBx10 BK325.out) hb); replace BK340 := Aside0.mk (blk_below (rBx10 BK340.out) hb); replace HB := Aside0.mk (below_step (be3x10 HB.out GE324.out GE325.out GE340.out) hb); (try clear hb); (try clear hb2); (try clear hk); (try clear hi)))
           replace HO_341003 := Aside0.mk (Kd.R_drew HO_341003.out)
           replace HO_341004 := Aside0.mk (Kd.R_drew HO_341004.out)
           replace HO_341005 := Aside0.mk (Kd.R_drew HO_341005.out)
           replace BK324 := Aside0.mk (blk_drew BK324.out)
           replace BK325 := Aside0.mk (blk_drew BK325.out)
           replace BK340 := Aside0.mk (blk_drew BK340.out)
           replace HB := Aside0.mk (below_drew1 HB.out)
           have p50 : 0 ≤ (x37_2 : Int) := of_decide_eq_true (by first | (with_reducible assumption) | assumption)
           have q50 : (x37_2 : Int) < ((x341004_2.length : Int) : Int) := of_decide_eq_true (by first | (with_reducible assumption) | assumption)
           obtain ⟨go50, co50, eo50, gb50, gl50, cl50, HG50⟩ := Kd.R_form HO_341004.out (by omega)
           (first | cases eo50 | (injection eo50 with ea_ en_ ec_; (first | subst ea_ | (injection ea_ with ea_; subst ea_)); subst ec_; clear en_))
           have GB50 := Aside0.mk gb50
           have GG50 := Aside0.mk HG50
           clear gb50 gl50 HG50
           obtain ⟨hx50_0, hf50_0⟩ := Kd.R_celln 0 HO_341004.out (x37_2 : Int) p50 q50
           replace p50 := eq_true p50
           replace q50 := eq_true q50
           have HP56 := Kd.R_putn HO_341004.out (x37_2 : Int) (wrap64 (Int.tdiv (wrap64 ((wrap64 (2 * t341)) + t342)) (wrap64 (2 * t342))))
           rw [← Ny344.out] at HP56
           have HQ56 := Aside0.mk HP56
           clear HP56
           refine start_ (n := 12) (S := fun w' => w'.cell? ⟨gb340, 0, none⟩ = some (.int .i64 t328) ∧ w'.cell? ⟨gb340, 1, none⟩ = some (.int .i64 t329) ∧ w'.cell? ⟨gb340, 2, none⟩ = some (.int .i64 t330) ∧ w'.cell? ⟨gb340, 3, none⟩ = some (u341003) ∧ w'.cell? ⟨gb340, 4, none⟩ = some (.slice (some ⟨go50, 0, none⟩) x341004_2.length co50) ∧ w'.cell? ⟨gb340, 5, none⟩ = some (u341005)) (ds := [11]) #[false, false, false, false, false, false, false, false, false, false, false, false] (by kernel_rfl) rfl rfl (cc6x10 BK340.out) (fun hHeld => ?_); refine with_tabW impl_UpdateAll.tab9 impl_UpdateAll.bits9 (fun HT_ HW_ => ?_)
           generalize w54.drew = w55 at HO_341003 HO_341004 HO_341005 BK324 BK325 BK340 HB GG50 HQ56 hf50_0 hx50_0 hHeld ⊢
           refine pure_ (i := 0) (N := some 51) (v := ?_) (a' := ?_) #[true, false, false, false, false, false, false, false, false, false, false, false] rfl rfl (any_of HT_.out (by kernel_rfl)) (fun _ _ _ h => h) (Or.inl ⟨by rfl, ?_⟩) ?_ ?_
           rotate_left
           ·intro w'
            go_simp
            with_reducible rfl
           rotate_left
           ·simp only [Act.put, List.setIfInBounds_toArray, List.set_cons_zero, List.set_cons_succ, i64_w, i32_w]
            rfl
           refine pure_ (i := 2) (N := some 53) (v := ?_) (a' := ?_) #[true, false, true, false, false, false, false, false, false, false, false, false] rfl rfl (any_of HT_.out (by kernel_rfl)) (fun _ _ _ h => h) (Or.inl ⟨by rfl, ?_⟩) ?_ ?_
           rotate_left
           ·intro w'
            go_simp
            with_reducible rfl
           rotate_left
           ·simp only [Act.put, List.setIfInBounds_toArray, List.set_cons_zero, List.set_cons_succ, i64_w, i32_w]
            rfl
           refine pure_ (i := 3) (N := some 54) (v := ?_) (a' := ?_) #[true, false, true, true, false, false, false, false, false, false, false, false] rfl rfl (any_of HT_.out (by kernel_rfl)) (fun _ _ _ h => h) (Or.inl ⟨by rfl, ?_⟩) ?_ ?_
           rotate_left
           ·intro w'
            go_simp
            with_reducible rfl
           rotate_left
           ·simp only [Act.put, List.setIfInBounds_toArray, List.set_cons_zero, List.set_cons_succ, i64_w, i32_w]
            rfl
           refine pure_ (i := 4) (N := some 55) (v := ?_) (a' := ?_) #[true, false, true, true, true, false, false, false, false, false, false, false] rfl rfl (any_of HT_.out (by kernel_rfl)) (fun _ _ _ h => h) (Or.inl ⟨by rfl, ?_⟩) ?_ ?_
           rotate_left
           ·intro w'
            go_simp
            with_reducible rfl
           rotate_left
           ·simp only [Act.put, List.setIfInBounds_toArray, List.set_cons_zero, List.set_cons_succ, i64_w, i32_w]
            rfl
           refine pure_ (i := 5) (N := some 56) (v := ?_) (a' := ?_) #[true, false, true, true, true, true, false, false, false, false, false, false] rfl rfl (any_of HT_.out (by kernel_rfl)) (fun _ _ _ h => h) (Or.inl ⟨by rfl, ?_⟩) ?_ ?_
           rotate_left
           ·intro w'
            go_simp
            with_reducible rfl
           rotate_left
           ·simp only [Act.put, List.setIfInBounds_toArray, List.set_cons_zero, List.set_cons_succ, i64_w, i32_w]
            rfl
           refine pure_ (i := 6) (N := some 57) (v := ?_) (a' := ?_) #[true, false, true, true, true, true, true, false, false, false, false, false] rfl rfl (any_of HT_.out (by kernel_rfl)) (fun _ _ _ h => h) (Or.inl ⟨by rfl, ?_⟩) ?_ ?_
           rotate_left
           ·intro w'
            go_simp
            with_reducible rfl
           rotate_left
           ·simp only [Act.put, List.setIfInBounds_toArray, List.set_cons_zero, List.set_cons_succ, i64_w, i32_w]
            rfl
           refine pure_ (i := 7) (N := some 58) (v := ?_) (a' := ?_) #[true, false, true, true, true, true, true, true, false, false, false, false] rfl rfl (any_of HT_.out (by kernel_rfl)) (fun _ _ _ h => h) (Or.inl ⟨by rfl, ?_⟩) ?_ ?_
           rotate_left
           ·intro w'
            go_simp
            with_reducible rfl
           rotate_left
           ·simp only [Act.put, List.setIfInBounds_toArray, List.set_cons_zero, List.set_cons_succ, i64_w, i32_w]
            rfl
           refine pure_ (i := 8) (N := some 59) (v := ?_) (a' := ?_) #[true, false, true, true, true, true, true, true, true, false, false, false] rfl rfl (any_of HT_.out (by kernel_rfl)) (fun _ _ _ h => h) (Or.inl ⟨by rfl, ?_⟩) ?_ ?_
           rotate_left
           ·intro w'
            go_simp
            with_reducible rfl
           rotate_left
           ·simp only [Act.put, List.setIfInBounds_toArray, List.set_cons_zero, List.set_cons_succ, i64_w, i32_w]
            rfl
           refine pure_ (i := 9) (N := some 60) (v := ?_) (a' := ?_) #[true, false, true, true, true, true, true, true, true, true, false, false] rfl rfl (any_of HT_.out (by kernel_rfl)) (fun _ _ _ h => h) (Or.inl ⟨by rfl, ?_⟩) ?_ ?_
           rotate_left
           ·intro w'
            go_simp
            with_reducible rfl
           rotate_left
           ·simp only [Act.put, List.setIfInBounds_toArray, List.set_cons_zero, List.set_cons_succ, i64_w, i32_w]
            rfl
           refine take_ (i := 1) (N := some 52) (v := ?_) (a' := ?_) #[true, true, true, true, true, true, true, true, true, true, false, false] rfl rfl (take_ofW HT_.out HW_.out (by kernel_rfl)) (fun _ _ _ h => h) (Or.inl ⟨by rfl, ?_⟩) hHeld ?_ ?_
           rotate_left
           ·rintro w' ⟨s0, s1, s2, s3, s4, s5⟩
            go_simp
            with_reducible rfl
           rotate_left
           ·simp only [Act.put, List.setIfInBounds_toArray, List.set_cons_zero, List.set_cons_succ, i64_w, i32_w]
            rfl
           refine pure_ (i := 10) (N := some 61) (v := ?_) (a' := ?_) #[true, true, true, true, true, true, true, true, true, true, true, false] rfl rfl (any_of HT_.out (by kernel_rfl)) (fun _ _ _ h => h) (Or.inl ⟨by rfl, ?_⟩) ?_ ?_
           rotate_left
           ·intro w'
            go_simp
            with_reducible rfl
           rotate_left
           ·simp only [Act.put, List.setIfInBounds_toArray, List.set_cons_zero, List.set_cons_succ, i64_w, i32_w]
            rfl
           refine last_ (i := 11) (N := none) #[true, true, true, true, true, true, true, true, true, true, true, true] rfl rfl (one_of HT_.out (by kernel_rfl)) (by decide) (fun K hK => ?_)
           refine skip_ (w1 := ?_) (by rfl) rfl ?_ ?_
           rotate_left
           ·go_simp
            rfl
           refine hK.out _ _ ?_
           clear hK K
           refine done_ (done_of HT_.out (by kernel_rfl)) ?_
           try go_wp2
           go_roundg k2
           case measure => have := HJ3.out; have := HK2.out; omega
           case rel => exact ⟨(wrap64 (x37_2 + 1)), (x341003_2), (y344), (x341005_2), (u341003), (.slice (some ⟨go50, 0, none⟩) x341004_2.length co50), (u341005), (by first | rfl | (simp; done) | (simp [*]; done)), H', ⟨by have := HJ3.out; have := HK2.out; omega⟩, ⟨by (with_reducible repeat (first | apply Kd.R_alloc | apply Kd.R_drewN | apply Kd.R_drew)); exact Kd.R_mono (Kd.R_far (p := ⟨go50, (x37_2 : Int).toNat, none⟩) (Kd.R_mono HO_341003.out (fun k_ hk => (⟨hk, fun e_ => hk.1 (by rw [e_]; rfl)⟩ : _ ∧ k_ ≠ go50))) (fun _ hk => hk.2) (.int .i64 (wrap64 (Int.tdiv (wrap64 ((wrap64 (2 * t341)) + t342)) (wrap64 (2 * t342)))))) (fun _ hk => ⟨hk.1.1, hk.1.2⟩)⟩, ⟨rRx10 HQ56.out⟩, ⟨by (with_reducible repeat (first | apply Kd.R_alloc | apply Kd.R_drewN | apply Kd.R_drew)); exact Kd.R_mono (Kd.R_far (p := ⟨go50, (x37_2 : Int).toNat, none⟩) (Kd.R_mono HO_341005.out (fun k_ hk => (⟨hk, fun e_ => hk.2 (by rw [e_]; rfl)⟩ : _ ∧ k_ ≠ go50))) (fun _ hk => hk.2) (.int .i64 (wrap64 (Int.tdiv (wrap64 ((wrap64 (2 * t341)) + t342)) (wrap64 (2 * t342)))))) (fun _ hk => ⟨hk.1.1, hk.1.2⟩)⟩, ⟨by (with_reducible repeat (first | refine blk_drewN ?_ _ | refine blk_drew ?_ | refine blk_alloc ?_ _)); refine blk_far ?_ (by have h_ := Kd.R_ne HO_341004.out BK324.out (by decide); intro e_; exact h_ (by rw [e_]; rfl)) _; (with_reducible repeat (first | refine blk_drewN ?_ _ | refine blk_drew ?_ | refine blk_alloc ?_ _)); exact BK324.out⟩, ⟨by (with_reducible repeat (first | refine blk_drewN ?_ _ | refine blk_drew ?_ | refine blk_alloc ?_ _)); refine blk_far ?_ (by have h_ := Kd.R_ne HO_341004.out BK325.out (by decide); intro e_; exact h_ (by rw [e_]; rfl)) _; (with_reducible repeat (first | refine blk_drewN ?_ _ | refine blk_drew ?_ | refine blk_alloc ?_ _)); exact BK325.out⟩, ⟨by (with_reducible repeat (first | refine blk_drewN ?_ _ | refine blk_drew ?_ | refine blk_alloc ?_ _)); refine blk_far ?_ (by have h_ := Kd.R_ne HO_341004.out BK340.out (by decide); intro e_; exact h_ (by rw [e_]; rfl)) _; (with_reducible repeat (first | refine blk_drewN ?_ _ | refine blk_drew ?_ | refine blk_alloc ?_ _)); exact BK340.out⟩, ⟨be4x10 HB.out GB50.out GE324.out GE325.out GE340.out⟩⟩
          ·rw [if_neg c49] at H
           exact absurd H (by simp)
         ·rw [if_neg c48] at H
          exact absurd H (by simp)
       ·replace c46 := Bool.eq_false_iff.mpr c46
        subst c46
        have H1 : (impl_UpdateAll.l0 k2 l1 a2 (t334.length : Int) (wrap64 (x37_2 + 1)) a0_0 a0_1 a0_2 l0_3 l0_4 l0_5 t328 t329 t330 x341003_2 x341004_2 x341005_2) = some (r1, r2, r3, r4, r5, r6, r7) := by rw [if_neg (show ¬ (false = true) by decide)] at H; exact H
        clear H
        have H := H1
        clear H1
        have H' := Aside0.mk H
        clear H
        have hnb57 := NB324_325.out
        have hnc57 := NB325_324.out
        have hnb58 := NB324_340.out
        have hnc58 := NB340_324.out
        obtain ⟨hcz59_0, hcz59_1, hcz59_2, hcz59_3, hcz59_4, hcz59_5, hfz59_0, hfz59_1, hfz59_2, hfz59_3, hfz59_4, hfz59_5⟩ := cf6x10 BK324.out
        go_wp2_with (first | ((with_reducible refine gate_callee (f := 114) rfl ?_); refine goesL_ (some 46) rfl rfl Try.func114 (by kernel_rfl) rfl #[.agg #[.int .i64 a0_0, .int .i64 a0_1, .int .i64 a0_2], .slice A1 l1.length c1, .int .i64 x37_2, .int .i64 a2] rfl mpx10 ?_; (with_reducible refine (impl_estimateBlock.calls k2 a0_0 a0_1 a0_2 _ _ l1 x37_2 a2 t341 t342 false _ ?side1 ?side2 A45.out).mono ?_); (case side1 => exact rCx10 (Kd.C_below HR1.out HB.out)); (case side2 => exact HC1.out); rintro e w60 ⟨rfl, hb⟩; refine ⟨_, rfl, ?_⟩; replace HO_341003 := Aside0.mk (Kd.R_below (rRx10 HO_341003.out) hb); replace HO_341004 := Aside0.mk (Kd.R_below (rRx10 HO_341004.out) hb); replace HO_341005 := Aside0.mk (Kd.R_below (rRx10 HO_341005.out) hb); replace BK324 := Aside0.mk (blk_below (rBx10 BK324.out) hb); replace BK325 := Aside0.mk (blk_below (rBx10 BK325.out) hb); replace BK340 := Aside0.mk (blk_below (rBx10 BK340.out) hb); replace HB := Aside0.mk (below_step (be3x10 HB.out GE324.out GE325.out GE340.out) hb); (try clear hb); (try clear hb2); (try clear hk); (try clear hi)))
        go_roundg k2
        case measure => have := HJ3.out; have := HK2.out; omega
        case rel => exact ⟨(wrap64 (x37_2 + 1)), (x341003_2), (x341004_2), (x341005_2), (u341003), (u341004), (u341005), (by first | rfl | (simp; done) | (simp [*]; done)), H', ⟨by have := HJ3.out; have := HK2.out; omega⟩, ⟨rRx10 HO_341003.out⟩, ⟨rRx10 HO_341004.out⟩, ⟨rRx10 HO_341005.out⟩, ⟨rBx10 BK324.out⟩, ⟨rBx10 BK325.out⟩, ⟨rBx10 BK340.out⟩, ⟨be3x10 HB.out GE324.out GE325.out GE340.out⟩⟩
      ·rw [if_neg c44] at H
       have c44b0 : decide (x37_2 < (t334.length : Int)) = false := decide_eq_false c44
       clear c44
       simp only [Option.some.injEq, Prod.mk.injEq] at H
       obtain ⟨rfl, rfl, rfl, rfl, rfl, rfl, rfl⟩ := H
       have hnb61 := NB340_324.out
       have hnc61 := NB324_340.out
       have hnb62 := NB340_325.out
       have hnc62 := NB325_340.out
       obtain ⟨hcz63_0, hcz63_1, hcz63_2, hcz63_3, hcz63_4, hcz63_5, hfz63_0, hfz63_1, hfz63_2, hfz63_3, hfz63_4, hfz63_5⟩ := cf6x10 BK340.out
       have hnb64 := NB325_324.out
       have hnc64 := NB324_325.out
       obtain ⟨hcz65_0, hcz65_1, hcz65_2, hcz65_3, hcz65_4, hcz65_5, hfz65_0, hfz65_1, hfz65_2, hfz65_3, hfz65_4, hfz65_5⟩ := cf6x10 BK325.out
       obtain ⟨Ao66, co66, eo66⟩ := Kd.R_slice HO_341003.out
       subst eo66
       obtain ⟨Ao67, co67, eo67⟩ := Kd.R_slice HO_341004.out
       subst eo67
       obtain ⟨Ao68, co68, eo68⟩ := Kd.R_slice HO_341005.out
       subst eo68
       go_wp2
       refine bodyPost_ret (results_ct rfl _ _ gb325 41 #[.int .i64 t328, .int .i64 t329, .int .i64 t330, .slice Ao66 x341003_2.length co66, .slice Ao67 x341004_2.length co67, .slice Ao68 x341005_2.length co68] (0, 0) _ rfl (by (with_reducible repeat (first | refine blk_drewN ?_ _ | refine blk_drew ?_ | refine blk_alloc ?_ _)); refine blk_put (cs := #[.int .i64 t328, .int .i64 t329, .int .i64 t330, .slice Ao66 x341003_2.length co66, .slice Ao67 x341004_2.length co67, .slice none 0 0]) ?_ 5 _ rfl; (with_reducible repeat (first | refine blk_drewN ?_ _ | refine blk_drew ?_ | refine blk_alloc ?_ _)); refine blk_put (cs := #[.int .i64 t328, .int .i64 t329, .int .i64 t330, .slice Ao66 x341003_2.length co66, .slice none 0 0, .slice none 0 0]) ?_ 4 _ rfl; (with_reducible repeat (first | refine blk_drewN ?_ _ | refine blk_drew ?_ | refine blk_alloc ?_ _)); refine blk_put (cs := #[.int .i64 t328, .int .i64 t329, .int .i64 t330, .slice none 0 0, .slice none 0 0, .slice none 0 0]) ?_ 3 _ rfl; (with_reducible repeat (first | refine blk_drewN ?_ _ | refine blk_drew ?_ | refine blk_alloc ?_ _)); refine blk_put (cs := #[.int .i64 t328, .int .i64 t329, .int .i64 0, .slice none 0 0, .slice none 0 0, .slice none 0 0]) ?_ 2 _ rfl; (with_reducible repeat (first | refine blk_drewN ?_ _ | refine blk_drew ?_ | refine blk_alloc ?_ _)); refine blk_put (cs := #[.int .i64 t328, .int .i64 0, .int .i64 0, .slice none 0 0, .slice none 0 0, .slice none 0 0]) ?_ 1 _ rfl; (with_reducible repeat (first | refine blk_drewN ?_ _ | refine blk_drew ?_ | refine blk_alloc ?_ _)); refine blk_put (cs := #[.int .i64 0, .int .i64 0, .int .i64 0, .slice none 0 0, .slice none 0 0, .slice none 0 0]) ?_ 0 _ rfl; (with_reducible repeat (first | refine blk_drewN ?_ _ | refine blk_drew ?_ | refine blk_alloc ?_ _)); exact BK325.out) Try.underlying41 rfl (by kernel_rfl)) rfl ?_
       exact ⟨_, _, _, by first | rfl | (simp [errW_none, errW_some] <;> rfl) | (simp [*, errW_none, errW_some] <;> rfl), by (with_reducible repeat (first | apply Kd.R_alloc | apply Kd.R_drewN | apply Kd.R_drew)); exact Kd.R_mono (Kd.R_far (p := ⟨gb325, 5, none⟩) (Kd.R_far (p := ⟨gb325, 4, none⟩) (Kd.R_far (p := ⟨gb325, 3, none⟩) (Kd.R_far (p := ⟨gb325, 2, none⟩) (Kd.R_far (p := ⟨gb325, 1, none⟩) (Kd.R_far (p := ⟨gb325, 0, none⟩) (Kd.R_types HO_341003.out BK325.out (by decide)) (fun _ hk => hk.2) (.int .i64 t328)) (fun _ hk => hk.2) (.int .i64 t329)) (fun _ hk => hk.2) (.int .i64 t330)) (fun _ hk => hk.2) (.slice Ao66 x341003_2.length co66)) (fun _ hk => hk.2) (.slice Ao67 x341004_2.length co67)) (fun _ hk => hk.2) (.slice Ao68 x341005_2.length co68)) (fun _ hk => ⟨hk.1.1, hk.1.2⟩), by (with_reducible repeat (first | apply Kd.R_alloc | apply Kd.R_drewN | apply Kd.R_drew)); exact Kd.R_mono (Kd.R_far (p := ⟨gb325, 5, none⟩) (Kd.R_far (p := ⟨gb325, 4, none⟩) (Kd.R_far (p := ⟨gb325, 3, none⟩) (Kd.R_far (p := ⟨gb325, 2, none⟩) (Kd.R_far (p := ⟨gb325, 1, none⟩) (Kd.R_far (p := ⟨gb325, 0, none⟩) (Kd.R_types HO_341004.out BK325.out (by decide)) (fun _ hk => hk.2) (.int .i64 t328)) (fun _ hk => hk.2) (.int .i64 t329)) (fun _ hk => hk.2) (.int .i64 t330)) (fun _ hk => hk.2) (.slice Ao66 x341003_2.length co66)) (fun _ hk => hk.2) (.slice Ao67 x341004_2.length co67)) (fun _ hk => hk.2) (.slice Ao68 x341005_2.length co68)) (fun _ hk => ⟨hk.1.1, hk.1.2⟩), by (with_reducible repeat (first | apply Kd.R_alloc | apply Kd.R_drewN | apply Kd.R_drew)); exact Kd.R_mono (Kd.R_far (p := ⟨gb325, 5, none⟩) (Kd.R_far (p := ⟨gb325, 4, none⟩) (Kd.R_far (p := ⟨gb325, 3, none⟩) (Kd.R_far (p := ⟨gb325, 2, none⟩) (Kd.R_far (p := ⟨gb325, 1, none⟩) (Kd.R_far (p := ⟨gb325, 0, none⟩) (Kd.R_types HO_341005.out BK325.out (by decide)) (fun _ hk => hk.2) (.int .i64 t328)) (fun _ hk => hk.2) (.int .i64 t329)) (fun _ hk => hk.2) (.int .i64 t330)) (fun _ hk => hk.2) (.slice Ao66 x341003_2.length co66)) (fun _ hk => hk.2) (.slice Ao67 x341004_2.length co67)) (fun _ hk => hk.2) (.slice Ao68 x341005_2.length co68)) (fun _ hk => ⟨hk.1.1, hk.1.2⟩), be3x10 HB.out GE324.out GE325.out GE340.out⟩

end Go.Proofs.Ytagnldmaglbpaaa.PFnExactUpdateAll
