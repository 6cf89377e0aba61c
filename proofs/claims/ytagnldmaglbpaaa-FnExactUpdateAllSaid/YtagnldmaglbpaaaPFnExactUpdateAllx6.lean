/- This text is this session's own, not the print's: programs (wip/squeeze.py and others) made it out of what print.sh, or wip/ownprint.py, had written (BYTES set higher), its facts said by short words. -/
import Derived.Test.YtagnldmaglbpaaaPFnExactUpdateAllx0
import Derived.Test.YtagnldmaglbpaaaPFnExactUpdateAllx3
import Derived.Test.YtagnldmaglbpaaaPFnExactUpdateAllx4
import Derived.Test.YtagnldmaglbpaaaPFnExactUpdateAllx5
namespace Go.Proofs.Ytagnldmaglbpaaa.PFnExactUpdateAll
open Go.RowKit Go.Proofs.YtagnldmaglbpaaaW.PrintWords Go.Proofs.YtagnldmaglbpaaaW.PrintLast Go.Proofs.YtagnldmaglbpaaaW.PrintMore
attribute [local go_sem] max2_int min2_int max_two min_two max_three min_three max_four min_four   -- for this text's walks alone
set_option linter.unusedVariables false
set_option linter.unusedSimpArgs false

/-! ### spec_UpdateAll: function 63 -/
theorem bb1x6 {W W' : World} {g b t : Nat} {cs : Array Value} (h : W.heap[b]? = some (.cells cs t (0, 0))) (hn : b ≠ g) (k : (∀ (i0 : Nat) (a0 : Value), (W.setCell ⟨g, i0, none⟩ a0).heap[b]? = some (.cells cs t (0, 0))) → W'.heap[b]? = some (.cells cs t (0, 0)) := by intro h; (with_reducible repeat (first | refine blk_drewN ?_ _ | refine blk_drew ?_ | refine blk_alloc ?_ _)); exact h _ _) : W'.heap[b]? = some (.cells cs t (0, 0)) := k (fun i0 a0 => blk_far (p := ⟨g, i0, none⟩) (h) hn a0)
theorem bb6x6 {W W' : World} {g b t : Nat} {cs : Array Value} (h : W.heap[b]? = some (.cells cs t (0, 0))) (hn : b ≠ g) (k : (∀ (i0 i1 i2 i3 i4 i5 : Nat) (a0 a1 a2 a3 a4 a5 : Value), ((((((W.setCell ⟨g, i0, none⟩ a0).setCell ⟨g, i1, none⟩ a1).setCell ⟨g, i2, none⟩ a2).setCell ⟨g, i3, none⟩ a3).setCell ⟨g, i4, none⟩ a4).setCell ⟨g, i5, none⟩ a5).heap[b]? = some (.cells cs t (0, 0))) → W'.heap[b]? = some (.cells cs t (0, 0)) := by intro h; (with_reducible repeat (first | refine blk_drewN ?_ _ | refine blk_drew ?_ | refine blk_alloc ?_ _)); exact h _ _ _ _ _ _ _ _ _ _ _ _) : W'.heap[b]? = some (.cells cs t (0, 0)) := k (fun i0 i1 i2 i3 i4 i5 a0 a1 a2 a3 a4 a5 => blk_far (p := ⟨g, i5, none⟩) (blk_far (p := ⟨g, i4, none⟩) (blk_far (p := ⟨g, i3, none⟩) (blk_far (p := ⟨g, i2, none⟩) (blk_far (p := ⟨g, i1, none⟩) (blk_far (p := ⟨g, i0, none⟩) (h) hn a0) hn a1) hn a2) hn a3) hn a4) hn a5)
theorem be0x6 {b : Nat} {W0 W W' : World} (h : Below b W0 W) (k : Below b W0 W → Below b W0 W' := by intro h ; repeat (first | (with_reducible first | exact h | apply below_alloc | apply pw_below_drewN | apply below_drew1) | exact h)) : Below b W0 W' := k h 
theorem be1x6 {b : Nat} {W0 W W' : World} {g0 : Nat} (h : Below b W0 W) (q0 : b ≤ g0) (k : Below b W0 W → b ≤ g0 → Below b W0 W' := by intro h q0; repeat (first | (with_reducible first | exact h | apply below_alloc | apply pw_below_drewN | apply below_drew1 | refine below_set ?_ q0) | exact h)) : Below b W0 W' := k h q0
theorem be2x6 {b : Nat} {W0 W W' : World} {g0 g1 : Nat} (h : Below b W0 W) (q0 : b ≤ g0) (q1 : b ≤ g1) (k : Below b W0 W → b ≤ g0 → b ≤ g1 → Below b W0 W' := by intro h q0 q1; repeat (first | (with_reducible first | exact h | apply below_alloc | apply pw_below_drewN | apply below_drew1 | refine below_set ?_ q0 | refine below_set ?_ q1) | exact h)) : Below b W0 W' := k h q0 q1
theorem be3x6 {b : Nat} {W0 W W' : World} {g0 g1 g2 : Nat} (h : Below b W0 W) (q0 : b ≤ g0) (q1 : b ≤ g1) (q2 : b ≤ g2) (k : Below b W0 W → b ≤ g0 → b ≤ g1 → b ≤ g2 → Below b W0 W' := by intro h q0 q1 q2; repeat (first | (with_reducible first | exact h | apply below_alloc | apply pw_below_drewN | apply below_drew1 | refine below_set ?_ q0 | refine below_set ?_ q1 | refine below_set ?_ q2) | exact h)) : Below b W0 W' := k h q0 q1 q2
theorem be4x6 {b : Nat} {W0 W W' : World} {g0 g1 g2 g3 : Nat} (h : Below b W0 W) (q0 : b ≤ g0) (q1 : b ≤ g1) (q2 : b ≤ g2) (q3 : b ≤ g3) (k : Below b W0 W → b ≤ g0 → b ≤ g1 → b ≤ g2 → b ≤ g3 → Below b W0 W' := by intro h q0 q1 q2 q3; repeat (first | (with_reducible first | exact h | apply below_alloc | apply pw_below_drewN | apply below_drew1 | refine below_set ?_ q0 | refine below_set ?_ q1 | refine below_set ?_ q2 | refine below_set ?_ q3) | exact h)) : Below b W0 W' := k h q0 q1 q2 q3
theorem cc6x6 {W : World} {g t : Nat} {a0 a1 a2 a3 a4 a5 : Value} (h : W.heap[g]? = some (.cells #[a0, a1, a2, a3, a4, a5] t (0, 0))) : W.cell? ⟨g, 0, none⟩ = some a0 ∧ W.cell? ⟨g, 1, none⟩ = some a1 ∧ W.cell? ⟨g, 2, none⟩ = some a2 ∧ W.cell? ⟨g, 3, none⟩ = some a3 ∧ W.cell? ⟨g, 4, none⟩ = some a4 ∧ W.cell? ⟨g, 5, none⟩ = some a5 := ⟨(blk_cell h 0).trans rfl, (blk_cell h 1).trans rfl, (blk_cell h 2).trans rfl, (blk_cell h 3).trans rfl, (blk_cell h 4).trans rfl, (blk_cell h 5).trans rfl⟩
theorem cf3x6 {W : World} {g t : Nat} {a0 a1 a2 : Value} (h : W.heap[g]? = some (.cells #[a0, a1, a2] t (0, 0))) : W.cell? ⟨g, 0, none⟩ = some a0 ∧ W.cell? ⟨g, 1, none⟩ = some a1 ∧ W.cell? ⟨g, 2, none⟩ = some a2 ∧ W.frozen? ⟨g, 0, none⟩ = false ∧ W.frozen? ⟨g, 1, none⟩ = false ∧ W.frozen? ⟨g, 2, none⟩ = false := ⟨(blk_cell h 0).trans rfl, (blk_cell h 1).trans rfl, (blk_cell h 2).trans rfl, blk_frozen h 0, blk_frozen h 1, blk_frozen h 2⟩
theorem cf6x6 {W : World} {g t : Nat} {a0 a1 a2 a3 a4 a5 : Value} (h : W.heap[g]? = some (.cells #[a0, a1, a2, a3, a4, a5] t (0, 0))) : W.cell? ⟨g, 0, none⟩ = some a0 ∧ W.cell? ⟨g, 1, none⟩ = some a1 ∧ W.cell? ⟨g, 2, none⟩ = some a2 ∧ W.cell? ⟨g, 3, none⟩ = some a3 ∧ W.cell? ⟨g, 4, none⟩ = some a4 ∧ W.cell? ⟨g, 5, none⟩ = some a5 ∧ W.frozen? ⟨g, 0, none⟩ = false ∧ W.frozen? ⟨g, 1, none⟩ = false ∧ W.frozen? ⟨g, 2, none⟩ = false ∧ W.frozen? ⟨g, 3, none⟩ = false ∧ W.frozen? ⟨g, 4, none⟩ = false ∧ W.frozen? ⟨g, 5, none⟩ = false := ⟨(blk_cell h 0).trans rfl, (blk_cell h 1).trans rfl, (blk_cell h 2).trans rfl, (blk_cell h 3).trans rfl, (blk_cell h 4).trans rfl, (blk_cell h 5).trans rfl, blk_frozen h 0, blk_frozen h 1, blk_frozen h 2, blk_frozen h 3, blk_frozen h 4, blk_frozen h 5⟩
theorem mox6 {α : Type} {d : Kd α} {e base : Nat} {ok ok' : Nat → Prop} {W : World} {v : Value} {xs : List α} (h : d.R e W base ok v xs) (k : ∀ k, ok k → ok' k := by intro _ hk; simp only [hk, ne_eq, not_false_eq_true, and_self]) : d.R e W base ok' v xs := Kd.R_mono h k
theorem mpx6 {P : Prop} (h : P := by (try simp only [List.map_toArray, List.map_cons, List.map_nil]); first | done | rfl | (simp only [List.length_drop, List.length_take]; rfl)) : P := h
theorem nwx6 {α β : Type} {d : Kd α} {d' : Kd β} {e e' : Nat} {w1 W : World} {b : Nat} {ok ok' : Nat → Prop} {v u : Value} {xs : List α} {ys : List β} (h : d.R e w1 W.heap.size ok v xs) (hu : d'.R e' W b ok' u ys) : d.R e w1 W.heap.size (fun k => ok k ∧ some k ≠ u.ownBlock) v xs := Kd.R_new' h (Kd.R_lt hu)
theorem rBx6 {W W' : World} {g t : Nat} {cs : Array Value} (h : W.heap[g]? = some (.cells cs t (0, 0))) (k : W.heap[g]? = some (.cells cs t (0, 0)) → W'.heap[g]? = some (.cells cs t (0, 0)) := by intro h; (with_reducible repeat (first | refine blk_drewN ?_ _ | refine blk_drew ?_ | refine blk_alloc ?_ _)); exact h) : W'.heap[g]? = some (.cells cs t (0, 0)) := k h
theorem rCx6 {α : Type} {d : Kd α} {W W' : World} {A : Option Addr} {n : Nat} {xs : List α} (h : d.C W A n xs) (k : d.C W A n xs → d.C W' A n xs := by intro h; repeat (first | exact h | (with_reducible refine Kd.C_alloc ?_ _) | (with_reducible refine Kd.C_drewN ?_ _) | (with_reducible refine Kd.C_drew ?_))) : d.C W' A n xs := k h
theorem rRx6 {α : Type} {d : Kd α} {e base : Nat} {ok : Nat → Prop} {W W' : World} {v : Value} {xs : List α} (h : d.R e W base ok v xs) (k : d.R e W base ok v xs → d.R e W' base ok v xs := by intro h; (with_reducible repeat (first | apply Kd.R_alloc | apply Kd.R_drewN | apply Kd.R_drew)); exact h) : d.R e W' base ok v xs := k h
mutual
def spec_UpdateAll.j0 : Nat → List (S120) → Int → Bool → Int → Int → Int → List Int → List Int → List Int → Option (Int × Int × Int × List Int × List Int × List Int × Bool)
 | 0, _, _, _, _, _, _, _, _, _ => none
 | k + 1, x1, x2, x27, x245000, x245001, x245002, x245003, x245004, x245005 => if x27 = true then (some (0, 0, 0, ([] : List Int), ([] : List Int), ([] : List Int), false)) else ((spec_moOwn.f x245000 x245001 x245002 x245003 x245004 x245005).bind fun bt249 => (spec_UpdateAll.l0 k x1 x2 (bt249.2.2.2.2.1.length : Int) 0 x245000 x245001 x245002 x245003 x245004 x245005 bt249.1 bt249.2.1 bt249.2.2.1 bt249.2.2.2.1 bt249.2.2.2.2.1 bt249.2.2.2.2.2))
def spec_UpdateAll.l0 : Nat → List (S120) → Int → Int → Int → Int → Int → Int → List Int → List Int → List Int → Int → Int → Int → List Int → List Int → List Int → Option (Int × Int × Int × List Int × List Int × List Int × Bool)
 | 0, _, _, _, _, _, _, _, _, _, _, _, _, _, _, _, _ => none
 | k + 1, x1, x2, x33, x34, x245000, x245001, x245002, x245003, x245004, x245005, x262000, x262001, x262002, x262003, x262004, x262005 => if x34 < x33 then ((spec_bhEstimate.f k x245000 x245001 x245002 x1 x34 x2).bind fun bt262 => (if bt262.2.2 = true then ((spec_bhRound.f bt262.1 bt262.2.1).bind fun t265 => (if 0 ≤ x34 then (if x34 < (x262004.length : Int) then (spec_UpdateAll.l0 k x1 x2 x33 (wrap64 (x34 + 1)) x245000 x245001 x245002 x245003 x245004 x245005 x262000 x262001 x262002 x262003 (x262004.set (x34 : Int).toNat t265) x262005) else (none)) else (none))) else (spec_UpdateAll.l0 k x1 x2 x33 (wrap64 (x34 + 1)) x245000 x245001 x245002 x245003 x245004 x245005 x262000 x262001 x262002 x262003 x262004 x262005))) else (some (x262000, x262001, x262002, x262003, x262004, x262005, true))
end
def spec_UpdateAll.f (k : Nat) (a0_0 : Int) (a0_1 : Int) (a0_2 : Int) (l0_3 : List Int) (l0_4 : List Int) (l0_5 : List Int) (l1 : List (S120)) (a2 : Int) : Option (Int × Int × Int × List Int × List Int × List Int × Bool) := (spec_moGood.f k a0_0 a0_1 a0_2 l0_3 l0_4 l0_5).bind fun t246 => (if t246 = true then ((spec_bhList.f k a0_0 a0_1 a0_2 l1).bind fun t247 => (if t247 = true then ((spec_bhReach.f a2).bind fun t248 => (spec_UpdateAll.j0 k l1 a2 (!t248) a0_0 a0_1 a0_2 l0_3 l0_4 l0_5)) else (spec_UpdateAll.j0 k l1 a2 true a0_0 a0_1 a0_2 l0_3 l0_4 l0_5))) else (spec_UpdateAll.j0 k l1 a2 true a0_0 a0_1 a0_2 l0_3 l0_4 l0_5))
theorem spec_UpdateAll.mono_l : ∀ k, (∀ y0 y1 y2 y3 y4 y5 y6 y7 y8, LeO (spec_UpdateAll.j0 k y0 y1 y2 y3 y4 y5 y6 y7 y8) (spec_UpdateAll.j0 (k + 1) y0 y1 y2 y3 y4 y5 y6 y7 y8)) ∧ (∀ y0 y1 y2 y3 y4 y5 y6 y7 y8 y9 y10 y11 y12 y13 y14 y15, LeO (spec_UpdateAll.l0 k y0 y1 y2 y3 y4 y5 y6 y7 y8 y9 y10 y11 y12 y13 y14 y15) (spec_UpdateAll.l0 (k + 1) y0 y1 y2 y3 y4 y5 y6 y7 y8 y9 y10 y11 y12 y13 y14 y15))
 | 0 => ⟨fun _ _ _ _ _ _ _ _ _ r h => by simp [spec_UpdateAll.j0] at h, fun _ _ _ _ _ _ _ _ _ _ _ _ _ _ _ _ r h => by simp [spec_UpdateAll.l0] at h⟩
 | k + 1 => by
  obtain ⟨ih0, ih1⟩ := spec_UpdateAll.mono_l k
  refine ⟨?_, ?_⟩
  ·intro y0 y1 y2 y3 y4 y5 y6 y7 y8
   unfold spec_UpdateAll.j0
   repeat' first
   | (with_reducible exact ih0 _ _ _ _ _ _ _ _ _)
   | (with_reducible exact ih1 _ _ _ _ _ _ _ _ _ _ _ _ _ _ _ _)
   | (with_reducible exact spec_bhEstimate.mono _ _ _ _ _ _ _)
   | (with_reducible exact spec_bhList.mono _ _ _ _ _)
   | (with_reducible exact spec_moGood.mono _ _ _ _ _ _ _)
   | (with_reducible exact LeO.refl _)
   | (with_reducible exact LeO.none _)
   | (with_reducible refine LeO.ite ?_ ?_)
   | (with_reducible refine LeO.bind ?_ (fun _ => ?_))
   | exact ih0 _ _ _ _ _ _ _ _ _
   | exact ih1 _ _ _ _ _ _ _ _ _ _ _ _ _ _ _ _
   | exact spec_bhEstimate.mono _ _ _ _ _ _ _
   | exact spec_bhList.mono _ _ _ _ _
   | exact spec_moGood.mono _ _ _ _ _ _ _
   | exact LeO.none _
   | refine LeO.ite ?_ ?_
   | refine LeO.bind ?_ (fun _ => ?_)
  ·intro y0 y1 y2 y3 y4 y5 y6 y7 y8 y9 y10 y11 y12 y13 y14 y15
   unfold spec_UpdateAll.l0
   repeat' first
   | (with_reducible exact ih0 _ _ _ _ _ _ _ _ _)
   | (with_reducible exact ih1 _ _ _ _ _ _ _ _ _ _ _ _ _ _ _ _)
   | (with_reducible exact spec_bhEstimate.mono _ _ _ _ _ _ _)
   | (with_reducible exact spec_bhList.mono _ _ _ _ _)
   | (with_reducible exact spec_moGood.mono _ _ _ _ _ _ _)
   | (with_reducible exact LeO.refl _)
   | (with_reducible exact LeO.none _)
   | (with_reducible refine LeO.ite ?_ ?_)
   | (with_reducible refine LeO.bind ?_ (fun _ => ?_))
   | exact ih0 _ _ _ _ _ _ _ _ _
   | exact ih1 _ _ _ _ _ _ _ _ _ _ _ _ _ _ _ _
   | exact spec_bhEstimate.mono _ _ _ _ _ _ _
   | exact spec_bhList.mono _ _ _ _ _
   | exact spec_moGood.mono _ _ _ _ _ _ _
   | exact LeO.none _
   | refine LeO.ite ?_ ?_
   | refine LeO.bind ?_ (fun _ => ?_)
theorem spec_UpdateAll.mono : ∀ a0 a1 a2 a3 a4 a5 a6 a7 k, LeO (spec_UpdateAll.f k a0 a1 a2 a3 a4 a5 a6 a7) (spec_UpdateAll.f (k + 1) a0 a1 a2 a3 a4 a5 a6 a7) := by
 intro a0 a1 a2 a3 a4 a5 a6 a7 k
 obtain ⟨ih0, ih1⟩ := spec_UpdateAll.mono_l k
 unfold spec_UpdateAll.f
 repeat' first
   | (with_reducible exact ih0 _ _ _ _ _ _ _ _ _)
   | (with_reducible exact ih1 _ _ _ _ _ _ _ _ _ _ _ _ _ _ _ _)
   | (with_reducible exact spec_bhEstimate.mono _ _ _ _ _ _ _)
   | (with_reducible exact spec_bhList.mono _ _ _ _ _)
   | (with_reducible exact spec_moGood.mono _ _ _ _ _ _ _)
   | (with_reducible exact LeO.refl _)
   | (with_reducible exact LeO.none _)
   | (with_reducible refine LeO.ite ?_ ?_)
   | (with_reducible refine LeO.bind ?_ (fun _ => ?_))
   | exact ih0 _ _ _ _ _ _ _ _ _
   | exact ih1 _ _ _ _ _ _ _ _ _ _ _ _ _ _ _ _
   | exact spec_bhEstimate.mono _ _ _ _ _ _ _
   | exact spec_bhList.mono _ _ _ _ _
   | exact spec_moGood.mono _ _ _ _ _ _ _
   | exact LeO.none _
   | refine LeO.ite ?_ ?_
   | refine LeO.bind ?_ (fun _ => ?_)
def spec_UpdateAll.T9 : Bool × List (List Nat × List Nat) := (true, [([], []), ([0], [0]), ([], []), ([], []), ([], []), ([3, 4], [3, 4]), ([1, 2, 0, 1, 2, 3, 4, 5], [1, 2]), ([6, 5, 5, 0, 1, 2, 3, 4, 5], [5, 6])])
def spec_UpdateAll.B9 : List Nat := [0, 1, 0, 0, 0, 24, 63, 127]
theorem spec_UpdateAll.tab9 : rtab .any (opsOf Try.f63 9) = spec_UpdateAll.T9 := by kernel_rfl
theorem spec_UpdateAll.bits9 : waitsOk spec_UpdateAll.T9.2 spec_UpdateAll.B9 = true := by kernel_rfl
set_option maxHeartbeats 8000000 in
set_option maxRecDepth 100000 in
theorem spec_UpdateAll.calls (k : Nat) (a0_0 : Int) (a0_1 : Int) (a0_2 : Int) (A0_3 : Option Addr) (c0_3 : Nat) (l0_3 : List Int) (A0_4 : Option Addr) (c0_4 : Nat) (l0_4 : List Int) (A0_5 : Option Addr) (c0_5 : Nat) (l0_5 : List Int) (A1 : Option Addr) (c1 : Nat) (l1 : List (S120)) (a2 : Int) (r1 : Int) (r2 : Int) (r3 : Int) (r4 : List Int) (r5 : List Int) (r6 : List Int) (r7 : Bool) (w : World) (hr0_3 : Kd.C (Kd.int .i64) w A0_3 l0_3.length l0_3) (hc0_3 : l0_3.length ≤ c0_3) (hr0_4 : Kd.C (Kd.int .i64) w A0_4 l0_4.length l0_4) (hc0_4 : l0_4.length ≤ c0_4) (hr0_5 : Kd.C (Kd.int .i64) w A0_5 l0_5.length l0_5) (hc0_5 : l0_5.length ≤ c0_5) (hr1 : Kd.C k120 w A1 l1.length l1) (hc1 : l1.length ≤ c1) (h : spec_UpdateAll.f k a0_0 a0_1 a0_2 l0_3 l0_4 l0_5 l1 a2 = some (r1, r2, r3, r4, r5, r6, r7)) :
  Calls Try.prog 63 #[.agg #[.int .i64 a0_0, .int .i64 a0_1, .int .i64 a0_2, .slice A0_3 l0_3.length c0_3, .slice A0_4 l0_4.length c0_4, .slice A0_5 l0_5.length c0_5], .slice A1 l1.length c1, .int .i64 a2] w fun e w' => ∃ v3_ v4_ v5_ : Value, e = .returned (.tuple #[.agg #[.int .i64 r1, .int .i64 r2, .int .i64 r3, v3_, v4_, v5_], .bool r7]) ∧ Kd.R (Kd.int .i64) 3 w' w.heap.size (fun k_ => some k_ ≠ (v4_ : Value).ownBlock ∧ some k_ ≠ (v5_ : Value).ownBlock) v3_ r4 ∧ Kd.R (Kd.int .i64) 3 w' w.heap.size (fun k_ => some k_ ≠ (v3_ : Value).ownBlock ∧ some k_ ≠ (v5_ : Value).ownBlock) v4_ r5 ∧ Kd.R (Kd.int .i64) 3 w' w.heap.size (fun k_ => some k_ ≠ (v3_ : Value).ownBlock ∧ some k_ ≠ (v4_ : Value).ownBlock) v5_ r6 ∧ Below w.heap.size w w' := by
 have hu41 := Try.underlying41
 have hu39 := Try.underlying39
 have HR0_3 := Aside0.mk hr0_3
 have HC0_3 := Aside0.mk hc0_3
 clear hr0_3 hc0_3
 have HR0_4 := Aside0.mk hr0_4
 have HC0_4 := Aside0.mk hc0_4
 clear hr0_4 hc0_4
 have HR0_5 := Aside0.mk hr0_5
 have HC0_5 := Aside0.mk hc0_5
 clear hr0_5 hc0_5
 have HR1 := Aside0.mk hr1
 have HC1 := Aside0.mk hc1
 clear hr1 hc1
 have HB := Aside0.mk (Below.refl w.heap.size w)
 have H : ((spec_moGood.f k a0_0 a0_1 a0_2 l0_3 l0_4 l0_5).bind fun t246 => (if t246 = true then ((spec_bhList.f k a0_0 a0_1 a0_2 l1).bind fun t247 => (if t247 = true then ((spec_bhReach.f a2).bind fun t248 => (spec_UpdateAll.j0 k l1 a2 (!t248) a0_0 a0_1 a0_2 l0_3 l0_4 l0_5)) else (spec_UpdateAll.j0 k l1 a2 true a0_0 a0_1 a0_2 l0_3 l0_4 l0_5))) else (spec_UpdateAll.j0 k l1 a2 true a0_0 a0_1 a0_2 l0_3 l0_4 l0_5))) = some (r1, r2, r3, r4, r5, r6, r7) := h
 clear h
 have HC4 := Aside0.mk H
 clear H
 go_enter Try.func63, Try.ntmps63
 go_upto_region 1 with (first | ((with_reducible refine gate_dst (N := 3) rfl ?_); refine box_event ?hg (N := 3) ?hd (cs := #[.int .i64 a0_0, .int .i64 a0_1, .int .i64 a0_2, .slice A0_3 l0_3.length c0_3, .slice A0_4 l0_4.length c0_4, .slice A0_5 l0_5.length c0_5]) (t := 41) ?hr ?_; (case hd => rfl); (case hg => rfl); (case hr => first | (go_simp; done) | (go_simp; rfl)); intro gb244 hg w5 hbox hb; have BK244 := Aside0.mk (hbox); have GW244 := Aside0.mk ((by rw [hg]; exact (below_size (be0x6 HB.out)) : w.heap.size ≤ gb244)); have GE244 := Aside0.mk ((by rw [hg]; exact (below_size (be0x6 HB.out)) : w.heap.size ≤ gb244)); replace HB := Aside0.mk (below_step (be0x6 HB.out) hb); clear hb hbox hg) | ((with_reducible refine gate_dst (N := 6) rfl ?_); refine box_event ?hg (N := 6) ?hd (cs := #[.int .i64 0, .int .i64 0, .int .i64 0, .slice none 0 0, .slice none 0 0, .slice none 0 0]) (t := 41) ?hr ?_; (case hd => rfl); (case hg => rfl); (case hr => first | (go_simp; done) | (go_simp; rfl)); intro gb245 hg w6 hbox hb; have BK245 := Aside0.mk (hbox); have GW245 := Aside0.mk ((by rw [hg]; exact (below_size (be1x6 HB.out GE244.out)) : w.heap.size ≤ gb245)); have GE245 := Aside0.mk ((by rw [hg]; exact (below_size (be1x6 HB.out GE244.out)) : w.heap.size ≤ gb245)); replace HB := Aside0.mk (below_step (be1x6 HB.out GE244.out) hb); have NB244_245 := Aside0.mk ((by rw [hg]; exact Nat.ne_of_lt (blk_lt (rBx6 BK244.out)) : gb244 ≠ gb245)); have NB245_244 := Aside0.mk ((by rw [hg]; exact Nat.ne_of_gt (blk_lt (rBx6 BK244.out)) : gb245 ≠ gb244)); replace BK244 := Aside0.mk (blk_below (rBx6 BK244.out) hb); clear hb hbox hg))
 (try simp only [Act.put, List.setIfInBounds_toArray, List.set_cons_zero, List.set_cons_succ])
 go_cut [27] (fun v27 wc => ∃ (kq : Nat) (x27_3 : Bool), v27 = .bool x27_3 ∧ Aside0 (spec_UpdateAll.j0 kq l1 a2 x27_3 a0_0 a0_1 a0_2 l0_3 l0_4 l0_5 = some (r1, r2, r3, r4, r5, r6, r7)) ∧ Aside0 (kq ≤ k) ∧ Aside0 (wc.heap[gb244]? = some (.cells #[.int .i64 a0_0, .int .i64 a0_1, .int .i64 a0_2, (.slice A0_3 l0_3.length c0_3), (.slice A0_4 l0_4.length c0_4), (.slice A0_5 l0_5.length c0_5)] 41 (0, 0))) ∧ Aside0 (wc.heap[gb245]? = some (.cells #[.int .i64 0, .int .i64 0, .int .i64 0, (.slice none 0 0), (.slice none 0 0), (.slice none 0 0)] 41 (0, 0))) ∧ Aside0 (Below w.heap.size w wc))
 case first =>
  have H := HC4.out
  clear HC4
  replace H := Option.bind_eq_some_iff.mp H
  obtain ⟨t246, A70, H⟩ := H
  have A7 := Aside0.mk A70
  clear A70
  by_cases c8 : t246 = true
  ·subst c8
   have H1 : ((spec_bhList.f k a0_0 a0_1 a0_2 l1).bind fun t247 => (if t247 = true then ((spec_bhReach.f a2).bind fun t248 => (spec_UpdateAll.j0 k l1 a2 (!t248) a0_0 a0_1 a0_2 l0_3 l0_4 l0_5)) else (spec_UpdateAll.j0 k l1 a2 true a0_0 a0_1 a0_2 l0_3 l0_4 l0_5))) = some (r1, r2, r3, r4, r5, r6, r7) := by rw [if_pos rfl] at H; exact H
   clear H
   have H := H1
   clear H1
   replace H := Option.bind_eq_some_iff.mp H
   obtain ⟨t247, A90, H⟩ := H
   have A9 := Aside0.mk A90
   clear A90
   by_cases c10 : t247 = true
   ·subst c10
    have H1 : ((spec_bhReach.f a2).bind fun t248 => (spec_UpdateAll.j0 k l1 a2 (!t248) a0_0 a0_1 a0_2 l0_3 l0_4 l0_5)) = some (r1, r2, r3, r4, r5, r6, r7) := by rw [if_pos rfl] at H; exact H
    clear H
    have H := H1
    clear H1
    replace H := Option.bind_eq_some_iff.mp H
    obtain ⟨t248, A110, H⟩ := H
    have A11 := Aside0.mk A110
    clear A110
    have H' := Aside0.mk H
    clear H
    have hnb12 := NB244_245.out
    have hnc12 := NB245_244.out
    obtain ⟨hcz13_0, hcz13_1, hcz13_2, hcz13_3, hcz13_4, hcz13_5, hfz13_0, hfz13_1, hfz13_2, hfz13_3, hfz13_4, hfz13_5⟩ := cf6x6 BK244.out
    go_wp2_with (first | ((with_reducible refine gate_callee (f := 87) rfl ?_); refine goesL_ (some 14) rfl rfl Try.func87 (by kernel_rfl) rfl #[.agg #[.int .i64 a0_0, .int .i64 a0_1, .int .i64 a0_2, .slice A0_3 l0_3.length c0_3, .slice A0_4 l0_4.length c0_4, .slice A0_5 l0_5.length c0_5]] rfl mpx6 ?_; (with_reducible refine (spec_moGood.calls k a0_0 a0_1 a0_2 _ _ l0_3 _ _ l0_4 _ _ l0_5 true _ ?side1 ?side2 ?side3 ?side4 ?side5 ?side6 A7.out).mono ?_); (case side1 => exact rCx6 (Kd.C_below HR0_3.out HB.out)); (case side2 => exact HC0_3.out); (case side3 => exact rCx6 (Kd.C_below HR0_4.out HB.out)); (case side4 => exact HC0_4.out); (case side5 => exact rCx6 (Kd.C_below HR0_5.out HB.out)); (case side6 => exact HC0_5.out); rintro e w14 ⟨rfl, hb⟩; refine ⟨_, rfl, ?_⟩; replace BK244 := Aside0.mk (blk_below (rBx6 BK244.out) hb); replace BK245 := Aside0.mk (blk_below (rBx6 BK245.out) hb); replace HB := Aside0.mk (below_step (be2x6 HB.out GE244.out GE245.out) hb); (try clear hb); (try clear hb2); (try clear hk); (try clear hi); obtain ⟨hcz15_0, hcz15_1, hcz15_2, hcz15_3, hcz15_4, hcz15_5, hfz15_0, hfz15_1, hfz15_2, hfz15_3, hfz15_4, hfz15_5⟩ := cf6x6 BK244.out) | (go_at_call 102; (with_reducible refine (spec_bhList.calls k a0_0 a0_1 a0_2 _ _ l1 true _ ?side1 ?side2 A9.out).mono ?_); (case side1 => exact rCx6 (Kd.C_below HR1.out HB.out)); (case side2 => exact HC1.out); rintro e w16 ⟨rfl, hb⟩; replace BK244 := Aside0.mk (blk_below (rBx6 BK244.out) hb); replace BK245 := Aside0.mk (blk_below (rBx6 BK245.out) hb); replace HB := Aside0.mk (below_step (be2x6 HB.out GE244.out GE245.out) hb); (try clear hb); (try clear hb2); (try clear hk); (try clear hi)) | (go_at_call 112; (with_reducible refine (spec_bhReach.calls a2 t248 _ A11.out).mono ?_); rintro e w' ⟨rfl, ⟨nd, rfl⟩⟩))
    go_meet
    case rel => exact ⟨_, (!t248), (by first | rfl | (simp; done) | (simp [*]; done)), H', ⟨by first | omega | exact Nat.le_refl _⟩, ⟨rBx6 BK244.out⟩, ⟨rBx6 BK245.out⟩, ⟨be2x6 HB.out GE244.out GE245.out⟩⟩
   ·replace c10 := Bool.eq_false_iff.mpr c10
    subst c10
    have H1 : (spec_UpdateAll.j0 k l1 a2 true a0_0 a0_1 a0_2 l0_3 l0_4 l0_5) = some (r1, r2, r3, r4, r5, r6, r7) := by rw [if_neg (show ¬ (false = true) by decide)] at H; exact H
    clear H
    have H := H1
    clear H1
    have H' := Aside0.mk H
    clear H
    have hnb17 := NB244_245.out
    have hnc17 := NB245_244.out
    obtain ⟨hcz18_0, hcz18_1, hcz18_2, hcz18_3, hcz18_4, hcz18_5, hfz18_0, hfz18_1, hfz18_2, hfz18_3, hfz18_4, hfz18_5⟩ := cf6x6 BK244.out
    go_wp2_with (first | ((with_reducible refine gate_callee (f := 87) rfl ?_); refine goesL_ (some 14) rfl rfl Try.func87 (by kernel_rfl) rfl #[.agg #[.int .i64 a0_0, .int .i64 a0_1, .int .i64 a0_2, .slice A0_3 l0_3.length c0_3, .slice A0_4 l0_4.length c0_4, .slice A0_5 l0_5.length c0_5]] rfl mpx6 ?_; (with_reducible refine (spec_moGood.calls k a0_0 a0_1 a0_2 _ _ l0_3 _ _ l0_4 _ _ l0_5 true _ ?side1 ?side2 ?side3 ?side4 ?side5 ?side6 A7.out).mono ?_); (case side1 => exact rCx6 (Kd.C_below HR0_3.out HB.out)); (case side2 => exact HC0_3.out); (case side3 => exact rCx6 (Kd.C_below HR0_4.out HB.out)); (case side4 => exact HC0_4.out); (case side5 => exact rCx6 (Kd.C_below HR0_5.out HB.out)); (case side6 => exact HC0_5.out); rintro e w19 ⟨rfl, hb⟩; refine ⟨_, rfl, ?_⟩; replace BK244 := Aside0.mk (blk_below (rBx6 BK244.out) hb); replace BK245 := Aside0.mk (blk_below (rBx6 BK245.out) hb); replace HB := Aside0.mk (below_step (be2x6 HB.out GE244.out GE245.out) hb); (try clear hb); (try clear hb2); (try clear hk); (try clear hi); obtain ⟨hcz20_0, hcz20_1, hcz20_2, hcz20_3, hcz20_4, hcz20_5, hfz20_0, hfz20_1, hfz20_2, hfz20_3, hfz20_4, hfz20_5⟩ := cf6x6 BK244.out) | (go_at_call 102; (with_reducible refine (spec_bhList.calls k a0_0 a0_1 a0_2 _ _ l1 false _ ?side1 ?side2 A9.out).mono ?_); (case side1 => exact rCx6 (Kd.C_below HR1.out HB.out)); (case side2 => exact HC1.out); rintro e w21 ⟨rfl, hb⟩; replace BK244 := Aside0.mk (blk_below (rBx6 BK244.out) hb); replace BK245 := Aside0.mk (blk_below (rBx6 BK245.out) hb); replace HB := Aside0.mk (below_step (be2x6 HB.out GE244.out GE245.out) hb); (try clear hb); (try clear hb2); (try clear hk); (try clear hi)))
    go_meet
    case rel => exact ⟨_, (true), (by first | rfl | (simp; done) | (simp [*]; done)), H', ⟨by first | omega | exact Nat.le_refl _⟩, ⟨rBx6 BK244.out⟩, ⟨rBx6 BK245.out⟩, ⟨be2x6 HB.out GE244.out GE245.out⟩⟩
  ·replace c8 := Bool.eq_false_iff.mpr c8
   subst c8
   have H1 : (spec_UpdateAll.j0 k l1 a2 true a0_0 a0_1 a0_2 l0_3 l0_4 l0_5) = some (r1, r2, r3, r4, r5, r6, r7) := by rw [if_neg (show ¬ (false = true) by decide)] at H; exact H
   clear H
   have H := H1
   clear H1
   have H' := Aside0.mk H
   clear H
   have hnb22 := NB244_245.out
   have hnc22 := NB245_244.out
   obtain ⟨hcz23_0, hcz23_1, hcz23_2, hcz23_3, hcz23_4, hcz23_5, hfz23_0, hfz23_1, hfz23_2, hfz23_3, hfz23_4, hfz23_5⟩ := cf6x6 BK244.out
   go_wp2_with (first | ((with_reducible refine gate_callee (f := 87) rfl ?_); refine goesL_ (some 14) rfl rfl Try.func87 (by kernel_rfl) rfl #[.agg #[.int .i64 a0_0, .int .i64 a0_1, .int .i64 a0_2, .slice A0_3 l0_3.length c0_3, .slice A0_4 l0_4.length c0_4, .slice A0_5 l0_5.length c0_5]] rfl mpx6 ?_; (with_reducible refine (spec_moGood.calls k a0_0 a0_1 a0_2 _ _ l0_3 _ _ l0_4 _ _ l0_5 false _ ?side1 ?side2 ?side3 ?side4 ?side5 ?side6 A7.out).mono ?_); (case side1 => exact rCx6 (Kd.C_below HR0_3.out HB.out)); (case side2 => exact HC0_3.out); (case side3 => exact rCx6 (Kd.C_below HR0_4.out HB.out)); (case side4 => exact HC0_4.out); (case side5 => exact rCx6 (Kd.C_below HR0_5.out HB.out)); (case side6 => exact HC0_5.out); rintro e w24 ⟨rfl, hb⟩; refine ⟨_, rfl, ?_⟩; replace BK244 := Aside0.mk (blk_below (rBx6 BK244.out) hb); replace BK245 := Aside0.mk (blk_below (rBx6 BK245.out) hb); replace HB := Aside0.mk (below_step (be2x6 HB.out GE244.out GE245.out) hb); (try clear hb); (try clear hb2); (try clear hk); (try clear hi)))
   go_meet
   case rel => exact ⟨_, (true), (by first | rfl | (simp; done) | (simp [*]; done)), H', ⟨by first | omega | exact Nat.le_refl _⟩, ⟨rBx6 BK244.out⟩, ⟨rBx6 BK245.out⟩, ⟨be2x6 HB.out GE244.out GE245.out⟩⟩
 case rest =>
  clear HC4
  try clear c1; try clear c8; try clear c10; try clear hcz13_0 hcz13_1 hcz13_2 hcz13_3 hcz13_4 hcz13_5; try clear hcz15_0 hcz15_1 hcz15_2 hcz15_3 hcz15_4 hcz15_5; try clear hcz18_0 hcz18_1 hcz18_2 hcz18_3 hcz18_4 hcz18_5; try clear hcz20_0 hcz20_1 hcz20_2 hcz20_3 hcz20_4 hcz20_5; try clear hcz23_0 hcz23_1 hcz23_2 hcz23_3 hcz23_4 hcz23_5; try clear hfz13_0 hfz13_1 hfz13_2 hfz13_3 hfz13_4 hfz13_5; try clear hfz15_0 hfz15_1 hfz15_2 hfz15_3 hfz15_4 hfz15_5; try clear hfz18_0 hfz18_1 hfz18_2 hfz18_3 hfz18_4 hfz18_5; try clear hfz20_0 hfz20_1 hfz20_2 hfz20_3 hfz20_4 hfz20_5; try clear hfz23_0 hfz23_1 hfz23_2 hfz23_3 hfz23_4 hfz23_5
  obtain ⟨kq, x27_3, rfl, HA, HJ3, BK244, BK245, HB⟩ := hcut
  cases kq with
  | zero => exact absurd HA.out (by simp [spec_UpdateAll.j0])
  | succ kj3 =>
   have H := HA.out
   clear HA
   simp only [spec_UpdateAll.j0] at H
   by_cases c25 : x27_3 = true
   ·subst c25
    have H1 : (some (0, 0, 0, ([] : List Int), ([] : List Int), ([] : List Int), false)) = some (r1, r2, r3, r4, r5, r6, r7) := by rw [if_pos rfl] at H; exact H
    clear H
    have H := H1
    clear H1
    simp only [Option.some.injEq, Prod.mk.injEq] at H
    obtain ⟨rfl, rfl, rfl, rfl, rfl, rfl, rfl⟩ := H
    have hnb26 := NB245_244.out
    have hnc26 := NB244_245.out
    obtain ⟨hcz27_0, hcz27_1, hcz27_2, hcz27_3, hcz27_4, hcz27_5, hfz27_0, hfz27_1, hfz27_2, hfz27_3, hfz27_4, hfz27_5⟩ := cf6x6 BK245.out
    go_wp2
    refine bodyPost_ret (results_ct rfl _ _ gb245 41 #[.int .i64 0, .int .i64 0, .int .i64 0, .slice none 0 0, .slice none 0 0, .slice none 0 0] (0, 0) _ rfl (by (with_reducible repeat (first | refine blk_drewN ?_ _ | refine blk_drew ?_ | refine blk_alloc ?_ _)); refine blk_put (cs := #[.int .i64 0, .int .i64 0, .int .i64 0, .slice none 0 0, .slice none 0 0, .slice none 0 0]) ?_ 5 _ rfl; (with_reducible repeat (first | refine blk_drewN ?_ _ | refine blk_drew ?_ | refine blk_alloc ?_ _)); refine blk_put (cs := #[.int .i64 0, .int .i64 0, .int .i64 0, .slice none 0 0, .slice none 0 0, .slice none 0 0]) ?_ 4 _ rfl; (with_reducible repeat (first | refine blk_drewN ?_ _ | refine blk_drew ?_ | refine blk_alloc ?_ _)); refine blk_put (cs := #[.int .i64 0, .int .i64 0, .int .i64 0, .slice none 0 0, .slice none 0 0, .slice none 0 0]) ?_ 3 _ rfl; (with_reducible repeat (first | refine blk_drewN ?_ _ | refine blk_drew ?_ | refine blk_alloc ?_ _)); refine blk_put (cs := #[.int .i64 0, .int .i64 0, .int .i64 0, .slice none 0 0, .slice none 0 0, .slice none 0 0]) ?_ 2 _ rfl; (with_reducible repeat (first | refine blk_drewN ?_ _ | refine blk_drew ?_ | refine blk_alloc ?_ _)); refine blk_put (cs := #[.int .i64 0, .int .i64 0, .int .i64 0, .slice none 0 0, .slice none 0 0, .slice none 0 0]) ?_ 1 _ rfl; (with_reducible repeat (first | refine blk_drewN ?_ _ | refine blk_drew ?_ | refine blk_alloc ?_ _)); refine blk_put (cs := #[.int .i64 0, .int .i64 0, .int .i64 0, .slice none 0 0, .slice none 0 0, .slice none 0 0]) ?_ 0 _ rfl; (with_reducible repeat (first | refine blk_drewN ?_ _ | refine blk_drew ?_ | refine blk_alloc ?_ _)); exact BK245.out) Try.underlying41 rfl (by kernel_rfl)) rfl ?_
    exact ⟨_, _, _, by first | rfl | (simp [errW_none, errW_some] <;> rfl) | (simp [*, errW_none, errW_some] <;> rfl), by first | exact Kd.R_nil _ _ _ _ _ | exact Kd.N_nil _ _ _ _ _ | exact Kd.V_nil _ _ _ _ _ | exact Kd.Q_nil _ _ _ _ _ | exact Kd.S_nil _ _ _ _ _, by first | exact Kd.R_nil _ _ _ _ _ | exact Kd.N_nil _ _ _ _ _ | exact Kd.V_nil _ _ _ _ _ | exact Kd.Q_nil _ _ _ _ _ | exact Kd.S_nil _ _ _ _ _, by first | exact Kd.R_nil _ _ _ _ _ | exact Kd.N_nil _ _ _ _ _ | exact Kd.V_nil _ _ _ _ _ | exact Kd.Q_nil _ _ _ _ _ | exact Kd.S_nil _ _ _ _ _, be2x6 HB.out GE244.out GE245.out⟩
   ·replace c25 := Bool.eq_false_iff.mpr c25
    subst c25
    have H1 : ((spec_moOwn.f a0_0 a0_1 a0_2 l0_3 l0_4 l0_5).bind fun bt249 => (spec_UpdateAll.l0 kj3 l1 a2 (bt249.2.2.2.2.1.length : Int) 0 a0_0 a0_1 a0_2 l0_3 l0_4 l0_5 bt249.1 bt249.2.1 bt249.2.2.1 bt249.2.2.2.1 bt249.2.2.2.2.1 bt249.2.2.2.2.2)) = some (r1, r2, r3, r4, r5, r6, r7) := by rw [if_neg (show ¬ (false = true) by decide)] at H; exact H
    clear H
    have H := H1
    clear H1
    replace H := Option.bind_eq_some_iff.mp H
    obtain ⟨⟨t249, t250, t251, t252, t255, t258⟩, A280, H⟩ := H
    (try dsimp only at H)
    have A28 := Aside0.mk A280
    clear A280
    have H' := Aside0.mk H
    clear H
    have hnb29 := NB244_245.out
    have hnc29 := NB245_244.out
    obtain ⟨hcz30_0, hcz30_1, hcz30_2, hcz30_3, hcz30_4, hcz30_5, hfz30_0, hfz30_1, hfz30_2, hfz30_3, hfz30_4, hfz30_5⟩ := cf6x6 BK244.out
    go_wp2_with (first | ((with_reducible refine gate_callee (f := 85) rfl ?_); refine goesL_ (some 30) rfl rfl Try.func85 (by kernel_rfl) rfl #[.agg #[.int .i64 a0_0, .int .i64 a0_1, .int .i64 a0_2, .slice A0_3 l0_3.length c0_3, .slice A0_4 l0_4.length c0_4, .slice A0_5 l0_5.length c0_5]] rfl mpx6 ?_; (with_reducible refine (spec_moOwn.calls a0_0 a0_1 a0_2 _ _ l0_3 _ _ l0_4 _ _ l0_5 t249 t250 t251 t252 t255 t258 _ ?side1 ?side2 ?side3 ?side4 ?side5 ?side6 A28.out).mono ?_); (case side1 => exact rCx6 (Kd.C_below HR0_3.out HB.out)); (case side2 => exact HC0_3.out); (case side3 => exact rCx6 (Kd.C_below HR0_4.out HB.out)); (case side4 => exact HC0_4.out); (case side5 => exact rCx6 (Kd.C_below HR0_5.out HB.out)); (case side6 => exact HC0_5.out); rintro e w31 ⟨v253, v256, v259, rfl, ho0, ho1, ho2, hb⟩; refine ⟨_, rfl, ?_⟩; have HO254 := Aside0.mk (Kd.R_lower ho0 (below_size (be2x6 HB.out GE244.out GE245.out))); have HO257 := Aside0.mk (Kd.R_lower ho1 (below_size (be2x6 HB.out GE244.out GE245.out))); have HO260 := Aside0.mk (Kd.R_lower ho2 (below_size (be2x6 HB.out GE244.out GE245.out))); replace BK244 := Aside0.mk (blk_below (rBx6 BK244.out) hb); replace BK245 := Aside0.mk (blk_below (rBx6 BK245.out) hb); replace HB := Aside0.mk (below_step (be2x6 HB.out GE244.out GE245.out) hb); (try clear hb); (try clear hb2); (try clear hk); (try clear hi); (try clear ho0); (try clear ho1); (try clear ho2)) | ((with_reducible refine gate_dst (N := 8) rfl ?_); refine box_event ?hg (N := 8) ?hd (cs := #[.int .i64 0, .int .i64 0, .int .i64 0, .slice none 0 0, .slice none 0 0, .slice none 0 0]) (t := 41) ?hr ?_; (case hd => rfl); (case hg => rfl); (case hr => first | (go_simp; done) | (go_simp; rfl)); intro gb261 hg w32 hbox hb; replace HO254 := Aside0.mk (Kd.R_below (rRx6 HO254.out) hb); replace HO257 := Aside0.mk (Kd.R_below (rRx6 HO257.out) hb); replace HO260 := Aside0.mk (Kd.R_below (rRx6 HO260.out) hb); have BK261 := Aside0.mk (hbox); have GW261 := Aside0.mk ((by rw [hg]; exact (below_size (be2x6 HB.out GE244.out GE245.out)) : w.heap.size ≤ gb261)); have GE261 := Aside0.mk ((by rw [hg]; exact (below_size (be2x6 HB.out GE244.out GE245.out)) : w.heap.size ≤ gb261)); replace HB := Aside0.mk (below_step (be2x6 HB.out GE244.out GE245.out) hb); have NB244_261 := Aside0.mk ((by rw [hg]; exact Nat.ne_of_lt (blk_lt (rBx6 BK244.out)) : gb244 ≠ gb261)); have NB261_244 := Aside0.mk ((by rw [hg]; exact Nat.ne_of_gt (blk_lt (rBx6 BK244.out)) : gb261 ≠ gb244)); replace BK244 := Aside0.mk (blk_below (rBx6 BK244.out) hb); have NB245_261 := Aside0.mk ((by rw [hg]; exact Nat.ne_of_lt (blk_lt (rBx6 BK245.out)) : gb245 ≠ gb261)); have NB261_245 := Aside0.mk ((by rw [hg]; exact Nat.ne_of_gt (blk_lt (rBx6 BK245.out)) : gb261 ≠ gb245)); replace BK245 := Aside0.mk (blk_below (rBx6 BK245.out) hb); clear hb hbox hg; have hnb33 := NB261_244.out; have hnc33 := NB244_261.out; have hnb34 := NB261_245.out; have hnc34 := NB245_261.out; obtain ⟨hcz35_0, hcz35_1, hcz35_2, hcz35_3, hcz35_4, hcz35_5, hfz35_0, hfz35_1, hfz35_2, hfz35_3, hfz35_4, hfz35_5⟩ := cf6x6 BK261.out; obtain ⟨Ao36, co36, eo36⟩ := Kd.R_slice HO254.out; subst eo36; obtain ⟨Ao37, co37, eo37⟩ := Kd.R_slice HO257.out; subst eo37; obtain ⟨Ao38, co38, eo38⟩ := Kd.R_slice HO260.out; subst eo38))
    go_loopg [34] kj3 (fun kq v34 w' => ∃ (x34_2 : Int) (x262003_2 : List Int) (x262004_2 : List Int) (x262005_2 : List Int) (u262003 : Value) (u262004 : Value) (u262005 : Value), v34 = .int .i64 x34_2 ∧ Aside0 (spec_UpdateAll.l0 kq l1 a2 (t255.length : Int) x34_2 a0_0 a0_1 a0_2 l0_3 l0_4 l0_5 t249 t250 t251 x262003_2 x262004_2 x262005_2 = some (r1, r2, r3, r4, r5, r6, r7)) ∧ Aside0 (kq ≤ kj3) ∧ Aside0 (Kd.R (Kd.int .i64) 3 w' w.heap.size (fun k_ => some k_ ≠ (u262004 : Value).ownBlock ∧ some k_ ≠ (u262005 : Value).ownBlock) u262003 x262003_2) ∧ Aside0 (Kd.R (Kd.int .i64) 3 w' w.heap.size (fun k_ => some k_ ≠ (u262003 : Value).ownBlock ∧ some k_ ≠ (u262005 : Value).ownBlock) u262004 x262004_2) ∧ Aside0 (Kd.R (Kd.int .i64) 3 w' w.heap.size (fun k_ => some k_ ≠ (u262003 : Value).ownBlock ∧ some k_ ≠ (u262004 : Value).ownBlock) u262005 x262005_2) ∧ Aside0 (w'.heap[gb244]? = some (.cells #[.int .i64 a0_0, .int .i64 a0_1, .int .i64 a0_2, (.slice A0_3 l0_3.length c0_3), (.slice A0_4 l0_4.length c0_4), (.slice A0_5 l0_5.length c0_5)] 41 (0, 0))) ∧ Aside0 (w'.heap[gb245]? = some (.cells #[.int .i64 0, .int .i64 0, .int .i64 0, (.slice none 0 0), (.slice none 0 0), (.slice none 0 0)] 41 (0, 0))) ∧ Aside0 (w'.heap[gb261]? = some (.cells #[.int .i64 t249, .int .i64 t250, .int .i64 t251, u262003, u262004, u262005] 41 (0, 0))) ∧ Aside0 (Below w.heap.size w w'))
    case atStart => exact ⟨(0), (t252), (t255), (t258), (.slice Ao36 t252.length co36), (.slice Ao37 t255.length co37), (.slice Ao38 t258.length co38), (by first | rfl | (simp; done) | (simp [*]; done)), H', ⟨Nat.le_refl _⟩, ⟨by (with_reducible repeat (first | apply Kd.R_alloc | apply Kd.R_drewN | apply Kd.R_drew)); exact Kd.R_mono (Kd.R_far (p := ⟨gb261, 5, none⟩) (Kd.R_far (p := ⟨gb261, 4, none⟩) (Kd.R_far (p := ⟨gb261, 3, none⟩) (Kd.R_far (p := ⟨gb261, 2, none⟩) (Kd.R_far (p := ⟨gb261, 1, none⟩) (Kd.R_far (p := ⟨gb261, 0, none⟩) (Kd.R_types HO254.out BK261.out (by decide)) (fun _ hk => hk.2) (.int .i64 t249)) (fun _ hk => hk.2) (.int .i64 t250)) (fun _ hk => hk.2) (.int .i64 t251)) (fun _ hk => hk.2) (.slice Ao36 t252.length co36)) (fun _ hk => hk.2) (.slice Ao37 t255.length co37)) (fun _ hk => hk.2) (.slice Ao38 t258.length co38)) (fun _ hk => ⟨hk.1.1, hk.1.2⟩)⟩, ⟨by (with_reducible repeat (first | apply Kd.R_alloc | apply Kd.R_drewN | apply Kd.R_drew)); exact Kd.R_mono (Kd.R_far (p := ⟨gb261, 5, none⟩) (Kd.R_far (p := ⟨gb261, 4, none⟩) (Kd.R_far (p := ⟨gb261, 3, none⟩) (Kd.R_far (p := ⟨gb261, 2, none⟩) (Kd.R_far (p := ⟨gb261, 1, none⟩) (Kd.R_far (p := ⟨gb261, 0, none⟩) (Kd.R_types HO257.out BK261.out (by decide)) (fun _ hk => hk.2) (.int .i64 t249)) (fun _ hk => hk.2) (.int .i64 t250)) (fun _ hk => hk.2) (.int .i64 t251)) (fun _ hk => hk.2) (.slice Ao36 t252.length co36)) (fun _ hk => hk.2) (.slice Ao37 t255.length co37)) (fun _ hk => hk.2) (.slice Ao38 t258.length co38)) (fun _ hk => ⟨hk.1.1, hk.1.2⟩)⟩, ⟨by (with_reducible repeat (first | apply Kd.R_alloc | apply Kd.R_drewN | apply Kd.R_drew)); exact Kd.R_mono (Kd.R_far (p := ⟨gb261, 5, none⟩) (Kd.R_far (p := ⟨gb261, 4, none⟩) (Kd.R_far (p := ⟨gb261, 3, none⟩) (Kd.R_far (p := ⟨gb261, 2, none⟩) (Kd.R_far (p := ⟨gb261, 1, none⟩) (Kd.R_far (p := ⟨gb261, 0, none⟩) (Kd.R_types HO260.out BK261.out (by decide)) (fun _ hk => hk.2) (.int .i64 t249)) (fun _ hk => hk.2) (.int .i64 t250)) (fun _ hk => hk.2) (.int .i64 t251)) (fun _ hk => hk.2) (.slice Ao36 t252.length co36)) (fun _ hk => hk.2) (.slice Ao37 t255.length co37)) (fun _ hk => hk.2) (.slice Ao38 t258.length co38)) (fun _ hk => ⟨hk.1.1, hk.1.2⟩)⟩, ⟨(bb6x6 BK244.out NB244_261.out)⟩, ⟨(bb6x6 BK245.out NB245_261.out)⟩, ⟨by (with_reducible repeat (first | refine blk_drewN ?_ _ | refine blk_drew ?_ | refine blk_alloc ?_ _)); refine blk_put (cs := #[.int .i64 t249, .int .i64 t250, .int .i64 t251, .slice Ao36 t252.length co36, .slice Ao37 t255.length co37, .slice none 0 0]) ?_ 5 _ rfl; (with_reducible repeat (first | refine blk_drewN ?_ _ | refine blk_drew ?_ | refine blk_alloc ?_ _)); refine blk_put (cs := #[.int .i64 t249, .int .i64 t250, .int .i64 t251, .slice Ao36 t252.length co36, .slice none 0 0, .slice none 0 0]) ?_ 4 _ rfl; (with_reducible repeat (first | refine blk_drewN ?_ _ | refine blk_drew ?_ | refine blk_alloc ?_ _)); refine blk_put (cs := #[.int .i64 t249, .int .i64 t250, .int .i64 t251, .slice none 0 0, .slice none 0 0, .slice none 0 0]) ?_ 3 _ rfl; (with_reducible repeat (first | refine blk_drewN ?_ _ | refine blk_drew ?_ | refine blk_alloc ?_ _)); refine blk_put (cs := #[.int .i64 t249, .int .i64 t250, .int .i64 0, .slice none 0 0, .slice none 0 0, .slice none 0 0]) ?_ 2 _ rfl; (with_reducible repeat (first | refine blk_drewN ?_ _ | refine blk_drew ?_ | refine blk_alloc ?_ _)); refine blk_put (cs := #[.int .i64 t249, .int .i64 0, .int .i64 0, .slice none 0 0, .slice none 0 0, .slice none 0 0]) ?_ 1 _ rfl; (with_reducible repeat (first | refine blk_drewN ?_ _ | refine blk_drew ?_ | refine blk_alloc ?_ _)); refine blk_put (cs := #[.int .i64 0, .int .i64 0, .int .i64 0, .slice none 0 0, .slice none 0 0, .slice none 0 0]) ?_ 0 _ rfl; (with_reducible repeat (first | refine blk_drewN ?_ _ | refine blk_drew ?_ | refine blk_alloc ?_ _)); exact BK261.out⟩, ⟨be3x6 HB.out GE244.out GE245.out GE261.out⟩⟩
    case round =>
     clear H'
     try clear c25; try clear hcz27_0 hcz27_1 hcz27_2 hcz27_3 hcz27_4 hcz27_5; try clear hcz30_0 hcz30_1 hcz30_2 hcz30_3 hcz30_4 hcz30_5; try clear hcz35_0 hcz35_1 hcz35_2 hcz35_3 hcz35_4 hcz35_5; try clear hfz27_0 hfz27_1 hfz27_2 hfz27_3 hfz27_4 hfz27_5; try clear hfz30_0 hfz30_1 hfz30_2 hfz30_3 hfz30_4 hfz30_5; try clear hfz35_0 hfz35_1 hfz35_2 hfz35_3 hfz35_4 hfz35_5
     obtain ⟨x34_2, x262003_2, x262004_2, x262005_2, u262003, u262004, u262005, rfl, HA, HK2, HO_262003, HO_262004, HO_262005, BK244, BK245, BK261, HB⟩ := hrel
     cases gk with
     | zero => exact absurd HA.out (by simp [spec_UpdateAll.l0])
     | succ k2 =>
      have H := HA.out
      clear HA
      simp only [spec_UpdateAll.l0] at H
      by_cases c39 : x34_2 < (t255.length : Int)
      ·rw [if_pos c39] at H
       have c39b0 : decide (x34_2 < (t255.length : Int)) = true := decide_eq_true c39
       clear c39
       replace H := Option.bind_eq_some_iff.mp H
       obtain ⟨⟨t262, t263, t264⟩, A400, H⟩ := H
       (try dsimp only at H)
       have A40 := Aside0.mk A400
       clear A400
       by_cases c41 : t264 = true
       ·subst c41
        have H1 : ((spec_bhRound.f t262 t263).bind fun t265 => (if 0 ≤ x34_2 then (if x34_2 < (x262004_2.length : Int) then (spec_UpdateAll.l0 k2 l1 a2 (t255.length : Int) (wrap64 (x34_2 + 1)) a0_0 a0_1 a0_2 l0_3 l0_4 l0_5 t249 t250 t251 x262003_2 (x262004_2.set (x34_2 : Int).toNat t265) x262005_2) else (none)) else (none))) = some (r1, r2, r3, r4, r5, r6, r7) := by rw [if_pos rfl] at H; exact H
        clear H
        have H := H1
        clear H1
        replace H := Option.bind_eq_some_iff.mp H
        obtain ⟨t265, A420, H⟩ := H
        have A42 := Aside0.mk A420
        clear A420
        by_cases c43 : 0 ≤ x34_2
        ·rw [if_pos c43] at H
         have c43b0 : decide (0 ≤ x34_2) = true := decide_eq_true c43
         clear c43
         by_cases c44 : x34_2 < (x262004_2.length : Int)
         ·rw [if_pos c44] at H
          have c44b0 : decide (x34_2 < (x262004_2.length : Int)) = true := decide_eq_true c44
          clear c44
          obtain ⟨y266, hy266⟩ : ∃ y_ : List Int, y_ = (x262004_2.set (x34_2 : Int).toNat t265) := ⟨_, rfl⟩
          replace H : (spec_UpdateAll.l0 k2 l1 a2 (t255.length : Int) (wrap64 (x34_2 + 1)) a0_0 a0_1 a0_2 l0_3 l0_4 l0_5 t249 t250 t251 x262003_2 y266 x262005_2) = some (r1, r2, r3, r4, r5, r6, r7) := by first | (rw [hy266]; with_reducible exact H) | (have H2_ := (Option.bind_some _ _).symm.trans H; rw [hy266]; with_reducible exact H2_) | (have H2_ := (Option.bind_some _ _).symm.trans H; with_reducible exact H2_) | with_reducible exact H | (rw [hy266]; exact H) | exact H
          have Ny266 := Aside0.mk hy266
          clear hy266
          have H' := Aside0.mk H
          clear H
          have hnb46 := NB244_245.out
          have hnc46 := NB245_244.out
          have hnb47 := NB244_261.out
          have hnc47 := NB261_244.out
          obtain ⟨hcz48_0, hcz48_1, hcz48_2, hcz48_3, hcz48_4, hcz48_5, hfz48_0, hfz48_1, hfz48_2, hfz48_3, hfz48_4, hfz48_5⟩ := cf6x6 BK244.out
          try go_wp2_with (first | ((with_reducible refine gate_callee (f := 113) rfl ?_); refine goesL_ (some 43) rfl rfl Try.func113 (by kernel_rfl) rfl #[.agg #[.int .i64 a0_0, .int .i64 a0_1, .int .i64 a0_2], .slice A1 l1.length c1, .int .i64 x34_2, .int .i64 a2] rfl mpx6 ?_; (with_reducible refine (spec_bhEstimate.calls k2 a0_0 a0_1 a0_2 _ _ l1 x34_2 a2 t262 t263 true _ ?side1 ?side2 A40.out).mono ?_); (case side1 => exact rCx6 (Kd.C_below HR1.out HB.out)); (case side2 => exact HC1.out); rintro e w49 ⟨rfl, hb⟩; refine ⟨_, rfl, ?_⟩; replace HO_262003 := Aside0.mk (Kd.R_below (rRx6 HO_262003.out) hb); replace HO_262004 := Aside0.mk (Kd.R_below (rRx6 HO_262004.out) hb); replace HO_262005 := Aside0.mk (Kd.R_below (rRx6 HO_262005.out) hb); replace BK244 := Aside0.mk (blk_below (rBx6 BK244.out) hb); replace BK245 := Aside0.mk (blk_below (rBx6 BK245.out) hb); replace BK261 := Aside0.mk (blk_below (rBx6 BK261.out) hb); replace HB := Aside0.mk (below_step (be3x6 HB.out GE244.out GE245.out GE261.out) hb); (try clear hb); (try clear hb2); (try clear hk); (try clear hi)))
          replace HO_262003 := Aside0.mk (Kd.R_drew HO_262003.out)
          replace HO_262004 := Aside0.mk (Kd.R_drew HO_262004.out)
          replace HO_262005 := Aside0.mk (Kd.R_drew HO_262005.out)
          replace BK244 := Aside0.mk (blk_drew BK244.out)
          replace BK245 := Aside0.mk (blk_drew BK245.out)
          replace BK261 := Aside0.mk (blk_drew BK261.out)
          replace HB := Aside0.mk (below_drew1 HB.out)
          refine start_ (n := 8) (S := fun w' => w'.cell? ⟨gb261, 0, none⟩ = some (.int .i64 t249) ∧ w'.cell? ⟨gb261, 1, none⟩ = some (.int .i64 t250) ∧ w'.cell? ⟨gb261, 2, none⟩ = some (.int .i64 t251) ∧ w'.cell? ⟨gb261, 3, none⟩ = some (u262003) ∧ w'.cell? ⟨gb261, 4, none⟩ = some (u262004) ∧ w'.cell? ⟨gb261, 5, none⟩ = some (u262005)) (ds := [7]) #[false, false, false, false, false, false, false, false] (by kernel_rfl) rfl rfl (cc6x6 BK261.out) (fun hHeld => ?_); refine with_tabW spec_UpdateAll.tab9 spec_UpdateAll.bits9 (fun HT_ HW_ => ?_)
          generalize w49.drew = w50 at HO_262003 HO_262004 HO_262005 BK244 BK245 BK261 HB hHeld ⊢
          refine pure_ (i := 0) (N := some 48) (v := ?_) (a' := ?_) #[true, false, false, false, false, false, false, false] rfl rfl (any_of HT_.out (by kernel_rfl)) (fun _ _ _ h => h) (Or.inl ⟨by rfl, ?_⟩) ?_ ?_
          rotate_left
          ·intro w'
           go_simp
           with_reducible rfl
          rotate_left
          ·simp only [Act.put, List.setIfInBounds_toArray, List.set_cons_zero, List.set_cons_succ, i64_w, i32_w]
           rfl
          refine pure_ (i := 2) (N := some 50) (v := ?_) (a' := ?_) #[true, false, true, false, false, false, false, false] rfl rfl (any_of HT_.out (by kernel_rfl)) (fun _ _ _ h => h) (Or.inl ⟨by rfl, ?_⟩) ?_ ?_
          rotate_left
          ·intro w'
           go_simp
           with_reducible rfl
          rotate_left
          ·simp only [Act.put, List.setIfInBounds_toArray, List.set_cons_zero, List.set_cons_succ, i64_w, i32_w]
           rfl
          refine pure_ (i := 3) (N := some 51) (v := ?_) (a' := ?_) #[true, false, true, true, false, false, false, false] rfl rfl (any_of HT_.out (by kernel_rfl)) (fun _ _ _ h => h) (Or.inl ⟨by rfl, ?_⟩) ?_ ?_
          rotate_left
          ·intro w'
           go_simp
           with_reducible rfl
          rotate_left
          ·simp only [Act.put, List.setIfInBounds_toArray, List.set_cons_zero, List.set_cons_succ, i64_w, i32_w]
           rfl
          refine pure_ (i := 4) (N := some 52) (v := ?_) (a' := ?_) #[true, false, true, true, true, false, false, false] rfl rfl (any_of HT_.out (by kernel_rfl)) (fun _ _ _ h => h) (Or.inl ⟨by rfl, ?_⟩) ?_ ?_
          rotate_left
          ·intro w'
           go_simp
           with_reducible rfl
          rotate_left
          ·simp only [Act.put, List.setIfInBounds_toArray, List.set_cons_zero, List.set_cons_succ, i64_w, i32_w]
           rfl
          refine take_ (i := 1) (N := some 49) (v := ?_) (a' := ?_) #[true, true, true, true, true, false, false, false] rfl rfl (take_ofW HT_.out HW_.out (by kernel_rfl)) (fun _ _ _ h => h) (Or.inl ⟨by rfl, ?_⟩) hHeld ?_ ?_
          rotate_left
          ·rintro w' ⟨s0, s1, s2, s3, s4, s5⟩
           go_simp
           with_reducible rfl
          rotate_left
          ·simp only [Act.put, List.setIfInBounds_toArray, List.set_cons_zero, List.set_cons_succ, i64_w, i32_w]
           rfl
          refine one_ (i := 5) (N := some 53) #[true, true, true, true, true, true, false, false] rfl rfl (one_of HT_.out (by kernel_rfl)) (by decide) (fun K hK => ?_)
          refine goes_ Try.func104 (by kernel_rfl) rfl #[.int .i64 t262, .int .i64 t263] (by rfl) rfl rfl mpx6 ?_
          with_reducible refine (spec_bhRound.calls t262 t263 t265 _ A42.out).mono ?_
          rintro e w' ⟨rfl, ⟨nd, rfl⟩⟩
          refine ⟨_, rfl, ?_⟩
          have p45 : 0 ≤ (x34_2 : Int) := of_decide_eq_true (by first | (with_reducible assumption) | assumption)
          have q45 : (x34_2 : Int) < ((x262004_2.length : Int) : Int) := of_decide_eq_true (by first | (with_reducible assumption) | assumption)
          obtain ⟨go45, co45, eo45, gb45, gl45, cl45, HG45⟩ := Kd.R_form HO_262004.out (by omega)
          (first | cases eo45 | (injection eo45 with ea_ en_ ec_; (first | subst ea_ | (injection ea_ with ea_; subst ea_)); subst ec_; clear en_))
          have GB45 := Aside0.mk gb45
          have GG45 := Aside0.mk HG45
          clear gb45 gl45 HG45
          obtain ⟨hx45_0, hf45_0⟩ := Kd.R_celln 0 HO_262004.out (x34_2 : Int) p45 q45
          replace p45 := eq_true p45
          replace q45 := eq_true q45
          have HP51 := Kd.R_putn HO_262004.out (x34_2 : Int) t265
          rw [← Ny266.out] at HP51
          have HQ51 := Aside0.mk HP51
          clear HP51
          refine hK.out _ _ (cc6x6 BK261.out) (fun hHeld => ?_)
          clear hK K
          refine norm_ (a' := ?_) ?_ ?_
          rotate_left
          ·show Act.put _ (some 53) _ = _
           simp only [Act.put, List.setIfInBounds_toArray, List.set_cons_zero, List.set_cons_succ, i64_w, i32_w]
           rfl
          refine pure_ (i := 6) (N := some 54) (v := ?_) (a' := ?_) #[true, true, true, true, true, true, true, false] rfl rfl (any_of HT_.out (by kernel_rfl)) (fun _ _ _ h => h) (Or.inl ⟨by rfl, ?_⟩) ?_ ?_
          rotate_left
          ·intro w'
           go_simp
           with_reducible rfl
          rotate_left
          ·simp only [Act.put, List.setIfInBounds_toArray, List.set_cons_zero, List.set_cons_succ, i64_w, i32_w]
           rfl
          refine last_ (i := 7) (N := none) #[true, true, true, true, true, true, true, true] rfl rfl (one_of HT_.out (by kernel_rfl)) (by decide) (fun K hK => ?_)
          refine skip_ (w1 := ?_) (by rfl) rfl ?_ ?_
          rotate_left
          ·go_simp
           rfl
          refine hK.out _ _ ?_
          clear hK K
          refine done_ (done_of HT_.out (by kernel_rfl)) ?_
          try go_wp2
          go_roundg k2
          case measure => have := HJ3.out; have := HK2.out; omega
          case rel => exact ⟨(wrap64 (x34_2 + 1)), (x262003_2), (y266), (x262005_2), (u262003), (.slice (some ⟨go45, 0, none⟩) x262004_2.length co45), (u262005), (by first | rfl | (simp; done) | (simp [*]; done)), H', ⟨by have := HJ3.out; have := HK2.out; omega⟩, ⟨by (with_reducible repeat (first | apply Kd.R_alloc | apply Kd.R_drewN | apply Kd.R_drew)); exact Kd.R_mono (Kd.R_far (p := ⟨go45, (x34_2 : Int).toNat, none⟩) (Kd.R_mono HO_262003.out (fun k_ hk => (⟨hk, fun e_ => hk.1 (by rw [e_]; rfl)⟩ : _ ∧ k_ ≠ go45))) (fun _ hk => hk.2) (.int .i64 t265)) (fun _ hk => ⟨hk.1.1, hk.1.2⟩)⟩, ⟨rRx6 HQ51.out⟩, ⟨by (with_reducible repeat (first | apply Kd.R_alloc | apply Kd.R_drewN | apply Kd.R_drew)); exact Kd.R_mono (Kd.R_far (p := ⟨go45, (x34_2 : Int).toNat, none⟩) (Kd.R_mono HO_262005.out (fun k_ hk => (⟨hk, fun e_ => hk.2 (by rw [e_]; rfl)⟩ : _ ∧ k_ ≠ go45))) (fun _ hk => hk.2) (.int .i64 t265)) (fun _ hk => ⟨hk.1.1, hk.1.2⟩)⟩, ⟨by (with_reducible repeat (first | refine blk_drewN ?_ _ | refine blk_drew ?_ | refine blk_alloc ?_ _)); refine blk_far ?_ (by have h_ := Kd.R_ne HO_262004.out BK244.out (by decide); intro e_; exact h_ (by rw [e_]; rfl)) _; (with_reducible repeat (first | refine blk_drewN ?_ _ | refine blk_drew ?_ | refine blk_alloc ?_ _)); exact BK244.out⟩, ⟨by (with_reducible repeat (first | refine blk_drewN ?_ _ | refine blk_drew ?_ | refine blk_alloc ?_ _)); refine blk_far ?_ (by have h_ := Kd.R_ne HO_262004.out BK245.out (by decide); intro e_; exact h_ (by rw [e_]; rfl)) _; (with_reducible repeat (first | refine blk_drewN ?_ _ | refine blk_drew ?_ | refine blk_alloc ?_ _)); exact BK245.out⟩, ⟨by (with_reducible repeat (first | refine blk_drewN ?_ _ | refine blk_drew ?_ | refine blk_alloc ?_ _)); refine blk_far ?_ (by have h_ := Kd.R_ne HO_262004.out BK261.out (by decide); intro e_; exact h_ (by rw [e_]; rfl)) _; (with_reducible repeat (first | refine blk_drewN ?_ _ | refine blk_drew ?_ | refine blk_alloc ?_ _)); exact BK261.out⟩, ⟨be4x6 HB.out GB45.out GE244.out GE245.out GE261.out⟩⟩
         ·rw [if_neg c44] at H
          exact absurd H (by simp)
        ·rw [if_neg c43] at H
         exact absurd H (by simp)
       ·replace c41 := Bool.eq_false_iff.mpr c41
        subst c41
        have H1 : (spec_UpdateAll.l0 k2 l1 a2 (t255.length : Int) (wrap64 (x34_2 + 1)) a0_0 a0_1 a0_2 l0_3 l0_4 l0_5 t249 t250 t251 x262003_2 x262004_2 x262005_2) = some (r1, r2, r3, r4, r5, r6, r7) := by rw [if_neg (show ¬ (false = true) by decide)] at H; exact H
        clear H
        have H := H1
        clear H1
        have H' := Aside0.mk H
        clear H
        have hnb52 := NB244_245.out
        have hnc52 := NB245_244.out
        have hnb53 := NB244_261.out
        have hnc53 := NB261_244.out
        obtain ⟨hcz54_0, hcz54_1, hcz54_2, hcz54_3, hcz54_4, hcz54_5, hfz54_0, hfz54_1, hfz54_2, hfz54_3, hfz54_4, hfz54_5⟩ := cf6x6 BK244.out
        go_wp2_with (first | ((with_reducible refine gate_callee (f := 113) rfl ?_); refine goesL_ (some 43) rfl rfl Try.func113 (by kernel_rfl) rfl #[.agg #[.int .i64 a0_0, .int .i64 a0_1, .int .i64 a0_2], .slice A1 l1.length c1, .int .i64 x34_2, .int .i64 a2] rfl mpx6 ?_; (with_reducible refine (spec_bhEstimate.calls k2 a0_0 a0_1 a0_2 _ _ l1 x34_2 a2 t262 t263 false _ ?side1 ?side2 A40.out).mono ?_); (case side1 => exact rCx6 (Kd.C_below HR1.out HB.out)); (case side2 => exact HC1.out); rintro e w55 ⟨rfl, hb⟩; refine ⟨_, rfl, ?_⟩; replace HO_262003 := Aside0.mk (Kd.R_below (rRx6 HO_262003.out) hb); replace HO_262004 := Aside0.mk (Kd.R_below (rRx6 HO_262004.out) hb); replace HO_262005 := Aside0.mk (Kd.R_below (rRx6 HO_262005.out) hb); replace BK244 := Aside0.mk (blk_below (rBx6 BK244.out) hb); replace BK245 := Aside0.mk (blk_below (rBx6 BK245.out) hb); replace BK261 := Aside0.mk (blk_below (rBx6 BK261.out) hb); replace HB := Aside0.mk (below_step (be3x6 HB.out GE244.out GE245.out GE261.out) hb); (try clear hb); (try clear hb2); (try clear hk); (try clear hi)))
        go_roundg k2
        case measure => have := HJ3.out; have := HK2.out; omega
        case rel => exact ⟨(wrap64 (x34_2 + 1)), (x262003_2), (x262004_2), (x262005_2), (u262003), (u262004), (u262005), (by first | rfl | (simp; done) | (simp [*]; done)), H', ⟨by have := HJ3.out; have := HK2.out; omega⟩, ⟨rRx6 HO_262003.out⟩, ⟨rRx6 HO_262004.out⟩, ⟨rRx6 HO_262005.out⟩, ⟨rBx6 BK244.out⟩, ⟨rBx6 BK245.out⟩, ⟨rBx6 BK261.out⟩, ⟨be3x6 HB.out GE244.out GE245.out GE261.out⟩⟩
      ·rw [if_neg c39] at H
       have c39b0 : decide (x34_2 < (t255.length : Int)) = false := decide_eq_false c39
       clear c39
       simp only [Option.some.injEq, Prod.mk.injEq] at H
       obtain ⟨rfl, rfl, rfl, rfl, rfl, rfl, rfl⟩ := H
       have hnb56 := NB261_244.out
       have hnc56 := NB244_261.out
       have hnb57 := NB261_245.out
       have hnc57 := NB245_261.out
       obtain ⟨hcz58_0, hcz58_1, hcz58_2, hcz58_3, hcz58_4, hcz58_5, hfz58_0, hfz58_1, hfz58_2, hfz58_3, hfz58_4, hfz58_5⟩ := cf6x6 BK261.out
       have hnb59 := NB245_244.out
       have hnc59 := NB244_245.out
       obtain ⟨hcz60_0, hcz60_1, hcz60_2, hcz60_3, hcz60_4, hcz60_5, hfz60_0, hfz60_1, hfz60_2, hfz60_3, hfz60_4, hfz60_5⟩ := cf6x6 BK245.out
       obtain ⟨Ao61, co61, eo61⟩ := Kd.R_slice HO_262003.out
       subst eo61
       obtain ⟨Ao62, co62, eo62⟩ := Kd.R_slice HO_262004.out
       subst eo62
       obtain ⟨Ao63, co63, eo63⟩ := Kd.R_slice HO_262005.out
       subst eo63
       go_wp2
       refine bodyPost_ret (results_ct rfl _ _ gb245 41 #[.int .i64 t249, .int .i64 t250, .int .i64 t251, .slice Ao61 x262003_2.length co61, .slice Ao62 x262004_2.length co62, .slice Ao63 x262005_2.length co63] (0, 0) _ rfl (by (with_reducible repeat (first | refine blk_drewN ?_ _ | refine blk_drew ?_ | refine blk_alloc ?_ _)); refine blk_put (cs := #[.int .i64 t249, .int .i64 t250, .int .i64 t251, .slice Ao61 x262003_2.length co61, .slice Ao62 x262004_2.length co62, .slice none 0 0]) ?_ 5 _ rfl; (with_reducible repeat (first | refine blk_drewN ?_ _ | refine blk_drew ?_ | refine blk_alloc ?_ _)); refine blk_put (cs := #[.int .i64 t249, .int .i64 t250, .int .i64 t251, .slice Ao61 x262003_2.length co61, .slice none 0 0, .slice none 0 0]) ?_ 4 _ rfl; (with_reducible repeat (first | refine blk_drewN ?_ _ | refine blk_drew ?_ | refine blk_alloc ?_ _)); refine blk_put (cs := #[.int .i64 t249, .int .i64 t250, .int .i64 t251, .slice none 0 0, .slice none 0 0, .slice none 0 0]) ?_ 3 _ rfl; (with_reducible repeat (first | refine blk_drewN ?_ _ | refine blk_drew ?_ | refine blk_alloc ?_ _)); refine blk_put (cs := #[.int .i64 t249, .int .i64 t250, .int .i64 0, .slice none 0 0, .slice none 0 0, .slice none 0 0]) ?_ 2 _ rfl; (with_reducible repeat (first | refine blk_drewN ?_ _ | refine blk_drew ?_ | refine blk_alloc ?_ _)); refine blk_put (cs := #[.int .i64 t249, .int .i64 0, .int .i64 0, .slice none 0 0, .slice none 0 0, .slice none 0 0]) ?_ 1 _ rfl; (with_reducible repeat (first | refine blk_drewN ?_ _ | refine blk_drew ?_ | refine blk_alloc ?_ _)); refine blk_put (cs := #[.int .i64 0, .int .i64 0, .int .i64 0, .slice none 0 0, .slice none 0 0, .slice none 0 0]) ?_ 0 _ rfl; (with_reducible repeat (first | refine blk_drewN ?_ _ | refine blk_drew ?_ | refine blk_alloc ?_ _)); exact BK245.out) Try.underlying41 rfl (by kernel_rfl)) rfl ?_
       exact ⟨_, _, _, by first | rfl | (simp [errW_none, errW_some] <;> rfl) | (simp [*, errW_none, errW_some] <;> rfl), by (with_reducible repeat (first | apply Kd.R_alloc | apply Kd.R_drewN | apply Kd.R_drew)); exact Kd.R_mono (Kd.R_far (p := ⟨gb245, 5, none⟩) (Kd.R_far (p := ⟨gb245, 4, none⟩) (Kd.R_far (p := ⟨gb245, 3, none⟩) (Kd.R_far (p := ⟨gb245, 2, none⟩) (Kd.R_far (p := ⟨gb245, 1, none⟩) (Kd.R_far (p := ⟨gb245, 0, none⟩) (Kd.R_types HO_262003.out BK245.out (by decide)) (fun _ hk => hk.2) (.int .i64 t249)) (fun _ hk => hk.2) (.int .i64 t250)) (fun _ hk => hk.2) (.int .i64 t251)) (fun _ hk => hk.2) (.slice Ao61 x262003_2.length co61)) (fun _ hk => hk.2) (.slice Ao62 x262004_2.length co62)) (fun _ hk => hk.2) (.slice Ao63 x262005_2.length co63)) (fun _ hk => ⟨hk.1.1, hk.1.2⟩), by (with_reducible repeat (first | apply Kd.R_alloc | apply Kd.R_drewN | apply Kd.R_drew)); exact Kd.R_mono (Kd.R_far (p := ⟨gb245, 5, none⟩) (Kd.R_far (p := ⟨gb245, 4, none⟩) (Kd.R_far (p := ⟨gb245, 3, none⟩) (Kd.R_far (p := ⟨gb245, 2, none⟩) (Kd.R_far (p := ⟨gb245, 1, none⟩) (Kd.R_far (p := ⟨gb245, 0, none⟩) (Kd.R_types HO_262004.out BK245.out (by decide)) (fun _ hk => hk.2) (.int .i64 t249)) (fun _ hk => hk.2) (.int .i64 t250)) (fun _ hk => hk.2) (.int .i64 t251)) (fun _ hk => hk.2) (.slice Ao61 x262003_2.length co61)) (fun _ hk => hk.2) (.slice Ao62 x262004_2.length co62)) (fun _ hk => hk.2) (.slice Ao63 x262005_2.length co63)) (fun _ hk => ⟨hk.1.1, hk.1.2⟩), by (with_reducible repeat (first | apply Kd.R_alloc | apply Kd.R_drewN | apply Kd.R_drew)); exact Kd.R_mono (Kd.R_far (p := ⟨gb245, 5, none⟩) (Kd.R_far (p := ⟨gb245, 4, none⟩) (Kd.R_far (p := ⟨gb245, 3, none⟩) (Kd.R_far (p := ⟨gb245, 2, none⟩) (Kd.R_far (p := ⟨gb245, 1, none⟩) (Kd.R_far (p := ⟨gb245, 0, none⟩) (Kd.R_types HO_262005.out BK245.out (by decide)) (fun _ hk => hk.2) (.int .i64 t249)) (fun _ hk => hk.2) (.int .i64 t250)) (fun _ hk => hk.2) (.int .i64 t251)) (fun _ hk => hk.2) (.slice Ao61 x262003_2.length co61)) (fun _ hk => hk.2) (.slice Ao62 x262004_2.length co62)) (fun _ hk => hk.2) (.slice Ao63 x262005_2.length co63)) (fun _ hk => ⟨hk.1.1, hk.1.2⟩), be3x6 HB.out GE244.out GE245.out GE261.out⟩

/-! ### impl_copyModel: function 86 -/
def impl_copyModel.f (a0_0 : Int) (a0_1 : Int) (a0_2 : Int) (l0_3 : List Int) (l0_4 : List Int) (l0_5 : List Int) : Option (Int × Int × Int × List Int × List Int × List Int) := (some (([] : List Int) : List Int)).bind fun y269 => (if y269.length + l0_3.length < 17592186044416 then ((some (([] : List Int) : List Int)).bind fun y275 => (if y275.length + l0_4.length < 17592186044416 then ((some (([] : List Int) : List Int)).bind fun y281 => (if y281.length + l0_5.length < 17592186044416 then (some (a0_0, a0_1, a0_2, (y269 ++ l0_3), (y275 ++ l0_4), (y281 ++ l0_5))) else (none))) else (none))) else (none))
set_option maxHeartbeats 8000000 in
set_option maxRecDepth 100000 in
theorem impl_copyModel.calls (a0_0 : Int) (a0_1 : Int) (a0_2 : Int) (A0_3 : Option Addr) (c0_3 : Nat) (l0_3 : List Int) (A0_4 : Option Addr) (c0_4 : Nat) (l0_4 : List Int) (A0_5 : Option Addr) (c0_5 : Nat) (l0_5 : List Int) (r1 : Int) (r2 : Int) (r3 : Int) (r4 : List Int) (r5 : List Int) (r6 : List Int) (w : World) (hr0_3 : Kd.C (Kd.int .i64) w A0_3 l0_3.length l0_3) (hc0_3 : l0_3.length ≤ c0_3) (hr0_4 : Kd.C (Kd.int .i64) w A0_4 l0_4.length l0_4) (hc0_4 : l0_4.length ≤ c0_4) (hr0_5 : Kd.C (Kd.int .i64) w A0_5 l0_5.length l0_5) (hc0_5 : l0_5.length ≤ c0_5) (h : impl_copyModel.f a0_0 a0_1 a0_2 l0_3 l0_4 l0_5 = some (r1, r2, r3, r4, r5, r6)) :
  Calls Try.prog 86 #[.agg #[.int .i64 a0_0, .int .i64 a0_1, .int .i64 a0_2, .slice A0_3 l0_3.length c0_3, .slice A0_4 l0_4.length c0_4, .slice A0_5 l0_5.length c0_5]] w fun e w' => ∃ v3_ v4_ v5_ : Value, e = .returned (.agg #[.int .i64 r1, .int .i64 r2, .int .i64 r3, v3_, v4_, v5_]) ∧ Kd.R (Kd.int .i64) 3 w' w.heap.size (fun k_ => some k_ ≠ (v4_ : Value).ownBlock ∧ some k_ ≠ (v5_ : Value).ownBlock) v3_ r4 ∧ Kd.R (Kd.int .i64) 3 w' w.heap.size (fun k_ => some k_ ≠ (v3_ : Value).ownBlock ∧ some k_ ≠ (v5_ : Value).ownBlock) v4_ r5 ∧ Kd.R (Kd.int .i64) 3 w' w.heap.size (fun k_ => some k_ ≠ (v3_ : Value).ownBlock ∧ some k_ ≠ (v4_ : Value).ownBlock) v5_ r6 ∧ Below w.heap.size w w' := by
 have hu41 := Try.underlying41
 have HR0_3 := Aside0.mk hr0_3
 have HC0_3 := Aside0.mk hc0_3
 clear hr0_3 hc0_3
 have HR0_4 := Aside0.mk hr0_4
 have HC0_4 := Aside0.mk hc0_4
 clear hr0_4 hc0_4
 have HR0_5 := Aside0.mk hr0_5
 have HC0_5 := Aside0.mk hc0_5
 clear hr0_5 hc0_5
 have HB := Aside0.mk (Below.refl w.heap.size w)
 have H : ((some (([] : List Int) : List Int)).bind fun y269 => (if y269.length + l0_3.length < 17592186044416 then ((some (([] : List Int) : List Int)).bind fun y275 => (if y275.length + l0_4.length < 17592186044416 then ((some (([] : List Int) : List Int)).bind fun y281 => (if y281.length + l0_5.length < 17592186044416 then (some (a0_0, a0_1, a0_2, (y269 ++ l0_3), (y275 ++ l0_4), (y281 ++ l0_5))) else (none))) else (none))) else (none))) = some (r1, r2, r3, r4, r5, r6) := h
 clear h
 obtain ⟨y269, hy269⟩ : ∃ y_ : List Int, y_ = (([] : List Int)) := ⟨_, rfl⟩
 replace H : (if y269.length + l0_3.length < 17592186044416 then ((some (([] : List Int) : List Int)).bind fun y275 => (if y275.length + l0_4.length < 17592186044416 then ((some (([] : List Int) : List Int)).bind fun y281 => (if y281.length + l0_5.length < 17592186044416 then (some (a0_0, a0_1, a0_2, (y269 ++ l0_3), (y275 ++ l0_4), (y281 ++ l0_5))) else (none))) else (none))) else (none)) = some (r1, r2, r3, r4, r5, r6) := by first | (rw [hy269]; with_reducible exact H) | (have H2_ := (Option.bind_some _ _).symm.trans H; rw [hy269]; with_reducible exact H2_) | (have H2_ := (Option.bind_some _ _).symm.trans H; with_reducible exact H2_) | with_reducible exact H | (rw [hy269]; exact H) | exact H
 have Ny269 := Aside0.mk hy269
 clear hy269
 by_cases c2 : y269.length + l0_3.length < 17592186044416
 ·rw [if_pos c2] at H
  have LMc2 := Aside0.mk c2
  clear c2
  obtain ⟨y272, hy272⟩ : ∃ y_ : List Int, y_ = (y269 ++ l0_3) := ⟨_, rfl⟩
  replace H : ((some (([] : List Int) : List Int)).bind fun y275 => (if y275.length + l0_4.length < 17592186044416 then ((some (([] : List Int) : List Int)).bind fun y281 => (if y281.length + l0_5.length < 17592186044416 then (some (a0_0, a0_1, a0_2, y272, (y275 ++ l0_4), (y281 ++ l0_5))) else (none))) else (none))) = some (r1, r2, r3, r4, r5, r6) := by first | (rw [hy272]; with_reducible exact H) | (have H2_ := (Option.bind_some _ _).symm.trans H; rw [hy272]; with_reducible exact H2_) | (have H2_ := (Option.bind_some _ _).symm.trans H; with_reducible exact H2_) | with_reducible exact H | (rw [hy272]; exact H) | exact H
  have Ny272 := Aside0.mk hy272
  clear hy272
  obtain ⟨y275, hy275⟩ : ∃ y_ : List Int, y_ = (([] : List Int)) := ⟨_, rfl⟩
  replace H : (if y275.length + l0_4.length < 17592186044416 then ((some (([] : List Int) : List Int)).bind fun y281 => (if y281.length + l0_5.length < 17592186044416 then (some (a0_0, a0_1, a0_2, y272, (y275 ++ l0_4), (y281 ++ l0_5))) else (none))) else (none)) = some (r1, r2, r3, r4, r5, r6) := by first | (rw [hy275]; with_reducible exact H) | (have H2_ := (Option.bind_some _ _).symm.trans H; rw [hy275]; with_reducible exact H2_) | (have H2_ := (Option.bind_some _ _).symm.trans H; with_reducible exact H2_) | with_reducible exact H | (rw [hy275]; exact H) | exact H
  have Ny275 := Aside0.mk hy275
  clear hy275
  by_cases c3 : y275.length + l0_4.length < 17592186044416
  ·rw [if_pos c3] at H
   have LMc3 := Aside0.mk c3
   clear c3
   obtain ⟨y278, hy278⟩ : ∃ y_ : List Int, y_ = (y275 ++ l0_4) := ⟨_, rfl⟩
   replace H : ((some (([] : List Int) : List Int)).bind fun y281 => (if y281.length + l0_5.length < 17592186044416 then (some (a0_0, a0_1, a0_2, y272, y278, (y281 ++ l0_5))) else (none))) = some (r1, r2, r3, r4, r5, r6) := by first | (rw [hy278]; with_reducible exact H) | (have H2_ := (Option.bind_some _ _).symm.trans H; rw [hy278]; with_reducible exact H2_) | (have H2_ := (Option.bind_some _ _).symm.trans H; with_reducible exact H2_) | with_reducible exact H | (rw [hy278]; exact H) | exact H
   have Ny278 := Aside0.mk hy278
   clear hy278
   obtain ⟨y281, hy281⟩ : ∃ y_ : List Int, y_ = (([] : List Int)) := ⟨_, rfl⟩
   replace H : (if y281.length + l0_5.length < 17592186044416 then (some (a0_0, a0_1, a0_2, y272, y278, (y281 ++ l0_5))) else (none)) = some (r1, r2, r3, r4, r5, r6) := by first | (rw [hy281]; with_reducible exact H) | (have H2_ := (Option.bind_some _ _).symm.trans H; rw [hy281]; with_reducible exact H2_) | (have H2_ := (Option.bind_some _ _).symm.trans H; with_reducible exact H2_) | with_reducible exact H | (rw [hy281]; exact H) | exact H
   have Ny281 := Aside0.mk hy281
   clear hy281
   by_cases c4 : y281.length + l0_5.length < 17592186044416
   ·rw [if_pos c4] at H
    have LMc4 := Aside0.mk c4
    clear c4
    obtain ⟨y284, hy284⟩ : ∃ y_ : List Int, y_ = (y281 ++ l0_5) := ⟨_, rfl⟩
    replace H : (some (a0_0, a0_1, a0_2, y272, y278, y284)) = some (r1, r2, r3, r4, r5, r6) := by first | (rw [hy284]; with_reducible exact H) | (have H2_ := (Option.bind_some _ _).symm.trans H; rw [hy284]; with_reducible exact H2_) | (have H2_ := (Option.bind_some _ _).symm.trans H; with_reducible exact H2_) | with_reducible exact H | (rw [hy284]; exact H) | exact H
    have Ny284 := Aside0.mk hy284
    clear hy284
    simp only [Option.some.injEq, Prod.mk.injEq] at H
    obtain ⟨rfl, rfl, rfl, rfl, rfl, rfl⟩ := H
    go_enter Try.func86, Try.ntmps86
    go_wp2_with (first | ((with_reducible refine gate_dst (N := 1) rfl ?_); refine box_event ?hg (N := 1) ?hd (cs := #[.int .i64 a0_0, .int .i64 a0_1, .int .i64 a0_2, .slice A0_3 l0_3.length c0_3, .slice A0_4 l0_4.length c0_4, .slice A0_5 l0_5.length c0_5]) (t := 41) ?hr ?_; (case hd => rfl); (case hg => rfl); (case hr => first | (go_simp; done) | (go_simp; rfl)); intro gb267 hg w5 hbox hb; have BK267 := Aside0.mk (hbox); have GW267 := Aside0.mk ((by rw [hg]; exact (below_size (be0x6 HB.out)) : w.heap.size ≤ gb267)); have GE267 := Aside0.mk ((by rw [hg]; exact (below_size (be0x6 HB.out)) : w.heap.size ≤ gb267)); replace HB := Aside0.mk (below_step (be0x6 HB.out) hb); clear hb hbox hg) | ((with_reducible refine gate_dst (N := 2) rfl ?_); refine box_event ?hg (N := 2) ?hd (cs := #[.int .i64 0, .int .i64 0, .int .i64 0, .slice none 0 0, .slice none 0 0, .slice none 0 0]) (t := 41) ?hr ?_; (case hd => rfl); (case hg => rfl); (case hr => first | (go_simp; done) | (go_simp; rfl)); intro gb268 hg w6 hbox hb; have BK268 := Aside0.mk (hbox); have GW268 := Aside0.mk ((by rw [hg]; exact (below_size (be1x6 HB.out GE267.out)) : w.heap.size ≤ gb268)); have GE268 := Aside0.mk ((by rw [hg]; exact (below_size (be1x6 HB.out GE267.out)) : w.heap.size ≤ gb268)); replace HB := Aside0.mk (below_step (be1x6 HB.out GE267.out) hb); have NB267_268 := Aside0.mk ((by rw [hg]; exact Nat.ne_of_lt (blk_lt (rBx6 BK267.out)) : gb267 ≠ gb268)); have NB268_267 := Aside0.mk ((by rw [hg]; exact Nat.ne_of_gt (blk_lt (rBx6 BK267.out)) : gb268 ≠ gb267)); replace BK267 := Aside0.mk (blk_below (rBx6 BK267.out) hb); clear hb hbox hg) | ((with_reducible refine gate_dst (N := 3) rfl ?_); refine Kd.R_lit (Kd.int .i64) _ 3 ?hg (N := 3) ?hd (xs := ([] : List Int)) (inner := []) (ok := fun _ => True) (okp := fun _ => True) ?hr ?hp (fun _ hk => hk) trivial (Below.refl _ _) (Nat.le_refl _) (by simp) ?_; (case hd => rfl); (case hg => rfl); (case hr => first | (go_simp; done) | (go_simp; rfl)); (case hp => exact (Reps.none _ _)); intro v270 w7 ho8 hb hg_ hnew_; clear hg_ hnew_; (first | rw [← Ny269.out] at ho8 | (simp only [Int.reduceToNat] at ho8; rw [← Ny269.out] at ho8)); have HO271 := Aside0.mk (Kd.R_lower ho8 (below_size (be2x6 HB.out GE267.out GE268.out))); replace BK267 := Aside0.mk (blk_below (rBx6 BK267.out) hb); replace BK268 := Aside0.mk (blk_below (rBx6 BK268.out) hb); replace HB := Aside0.mk (below_step (be2x6 HB.out GE267.out GE268.out) hb); clear hb ho8; have hnb9 := NB267_268.out; have hnc9 := NB268_267.out; obtain ⟨hcz10_0, hcz10_1, hcz10_2, hcz10_3, hcz10_4, hcz10_5, hfz10_0, hfz10_1, hfz10_2, hfz10_3, hfz10_4, hfz10_5⟩ := cf6x6 BK267.out) | ((with_reducible refine gate_builtin (b := .append) (xs := #[.tmp 3, .tmp 5]) rfl ?_); at_builtin; refine Kd.R_append_rows (Kd.int .i64) (w0 := w) w.heap.size rfl (.tmp 3) (.tmp 5) 24 3 (.int .i64 0) 8 rfl Try.underlying24 info3 rfl (by decide) (by omega) v270 y269 l0_3 _ _ _ (fun _ => True) (fun _ => False) rfl rfl ?aO ?aR (fun _ _ h => h) (fun _ h => h.elim) ?aF ?aB ?aS ?aL ?_; (case aR => repeat (first | exact (Kd.C_below HR0_3.out HB.out) | (with_reducible refine Kd.C_alloc ?_ _) | (with_reducible refine Kd.C_drewN ?_ _) | (with_reducible refine Kd.C_drew ?_))); (case aB => exact (be2x6 HB.out GE267.out GE268.out)); (case aF => exact (fun _ _ => trivial)); (case aO => exact (rRx6 HO271.out)); (case aS => exact (below_size (be2x6 HB.out GE267.out GE268.out))); (case aL => have := LMc2.out; omega); intro v273 w11 ho hb hg hat; rw [← Ny272.out] at ho; replace BK267 := Aside0.mk (blk_grown (g := gb267) (o := .cells #[.int .i64 a0_0, .int .i64 a0_1, .int .i64 a0_2, .slice A0_3 l0_3.length c0_3, .slice A0_4 l0_4.length c0_4, .slice A0_5 l0_5.length c0_5] 41 (0, 0)) (rBx6 BK267.out) hg (Kd.R_ne HO271.out BK267.out (by decide))); replace BK268 := Aside0.mk (blk_grown (g := gb268) (o := .cells #[.int .i64 0, .int .i64 0, .int .i64 0, .slice none 0 0, .slice none 0 0, .slice none 0 0] 41 (0, 0)) (rBx6 BK268.out) hg (Kd.R_ne HO271.out BK268.out (by decide))); replace HB := Aside0.mk (hb); have HO274 := Aside0.mk (ho); clear HO271 ho hb hg hat; obtain ⟨Ao12, co12, eo12⟩ := Kd.R_slice HO274.out; subst eo12; obtain ⟨hcz13_0, hcz13_1, hcz13_2, hcz13_3, hcz13_4, hcz13_5, hfz13_0, hfz13_1, hfz13_2, hfz13_3, hfz13_4, hfz13_5⟩ := cf6x6 BK267.out) | ((with_reducible refine gate_dst (N := 8) rfl ?_); refine Kd.R_lit (Kd.int .i64) _ 3 ?hg (N := 8) ?hd (xs := ([] : List Int)) (inner := []) (ok := fun _ => True) (okp := fun _ => True) ?hr ?hp (fun _ hk => hk) trivial (Below.refl _ _) (Nat.le_refl _) (by simp) ?_; (case hd => rfl); (case hg => rfl); (case hr => first | (go_simp; done) | (go_simp; rfl)); (case hp => exact (Reps.none _ _)); intro v276 w14 ho15 hb hg_ hnew_; clear hg_ hnew_; (first | rw [← Ny275.out] at ho15 | (simp only [Int.reduceToNat] at ho15; rw [← Ny275.out] at ho15)); have HO277 := Aside0.mk (Kd.R_lower (nwx6 ho15 (by (with_reducible repeat (first | apply Kd.R_alloc | apply Kd.R_drewN | apply Kd.R_drew)); exact (Kd.R_mono (Kd.R_far (p := ⟨gb267, 3, none⟩) (Kd.R_types HO274.out BK267.out (by decide)) (fun _ hk => hk.2) (.slice Ao12 y272.length co12)) (fun _ h_ => h_.1)))) (below_size (be2x6 HB.out GE267.out GE268.out))); replace HO274 := Aside0.mk (Kd.R_elder' (by (with_reducible repeat (first | apply Kd.R_alloc | apply Kd.R_drewN | apply Kd.R_drew)); exact (Kd.R_mono (Kd.R_far (p := ⟨gb267, 3, none⟩) (Kd.R_types HO274.out BK267.out (by decide)) (fun _ hk => hk.2) (.slice Ao12 y272.length co12)) (fun _ h_ => h_.1))) (Kd.R_base ho15) hb); replace BK267 := Aside0.mk (blk_below (g := gb267) (o := .cells #[.int .i64 a0_0, .int .i64 a0_1, .int .i64 a0_2, .slice Ao12 y272.length co12, .slice A0_4 l0_4.length c0_4, .slice A0_5 l0_5.length c0_5] 41 (0, 0)) (by (with_reducible repeat (first | refine blk_drewN ?_ _ | refine blk_drew ?_ | refine blk_alloc ?_ _)); refine blk_put (cs := #[.int .i64 a0_0, .int .i64 a0_1, .int .i64 a0_2, .slice A0_3 l0_3.length c0_3, .slice A0_4 l0_4.length c0_4, .slice A0_5 l0_5.length c0_5]) ?_ 3 _ rfl; (with_reducible repeat (first | refine blk_drewN ?_ _ | refine blk_drew ?_ | refine blk_alloc ?_ _)); exact BK267.out) hb); replace BK268 := Aside0.mk (blk_below (bb1x6 BK268.out NB268_267.out) hb); replace HB := Aside0.mk (below_step (be2x6 HB.out GE267.out GE268.out) hb); clear hb ho15; obtain ⟨hcz16_0, hcz16_1, hcz16_2, hcz16_3, hcz16_4, hcz16_5, hfz16_0, hfz16_1, hfz16_2, hfz16_3, hfz16_4, hfz16_5⟩ := cf6x6 BK267.out) | ((with_reducible refine gate_builtin (b := .append) (xs := #[.tmp 8, .tmp 10]) rfl ?_); at_builtin; refine Kd.R_append_rows (Kd.int .i64) (w0 := w) w.heap.size rfl (.tmp 8) (.tmp 10) 24 3 (.int .i64 0) 8 rfl Try.underlying24 info3 rfl (by decide) (by omega) v276 y275 l0_4 _ _ _ (fun k_ => some k_ ≠ (.slice Ao12 y272.length co12 : Value).ownBlock) (fun _ => False) rfl rfl ?aO ?aR (fun _ _ h => h) (fun _ h => h.elim) ?aF ?aB ?aS ?aL ?_; (case aR => repeat (first | exact (Kd.C_below HR0_4.out HB.out) | (with_reducible refine Kd.C_alloc ?_ _) | (with_reducible refine Kd.C_drewN ?_ _) | (with_reducible refine Kd.C_drew ?_))); (case aB => exact (be2x6 HB.out GE267.out GE268.out)); (case aF => exact (fun k_ hk => Kd.fresh' (Kd.R_lt (rRx6 HO274.out)) k_ hk)); (case aO => exact (by exact rRx6 (Kd.R_mono HO277.out (fun _ hk => hk.2)))); (case aS => exact (below_size (be2x6 HB.out GE267.out GE268.out))); (case aL => have := LMc3.out; omega); intro v279 w17 ho hb hg hat; rw [← Ny278.out] at ho; replace BK267 := Aside0.mk (blk_grown (g := gb267) (o := .cells #[.int .i64 a0_0, .int .i64 a0_1, .int .i64 a0_2, .slice Ao12 y272.length co12, .slice A0_4 l0_4.length c0_4, .slice A0_5 l0_5.length c0_5] 41 (0, 0)) (rBx6 BK267.out) hg (Kd.R_ne HO277.out BK267.out (by decide))); replace BK268 := Aside0.mk (blk_grown (g := gb268) (o := .cells #[.int .i64 0, .int .i64 0, .int .i64 0, .slice none 0 0, .slice none 0 0, .slice none 0 0] 41 (0, 0)) (rBx6 BK268.out) hg (Kd.R_ne HO277.out BK268.out (by decide))); replace HO274 := Aside0.mk (Kd.R_after (ok := (fun _ => True)) (rRx6 HO274.out) hg hat); replace HB := Aside0.mk (hb); have HO280 := Aside0.mk (ho); clear HO277 ho hb hg hat; obtain ⟨Ao18, co18, eo18⟩ := Kd.R_slice HO280.out; subst eo18; obtain ⟨hcz19_0, hcz19_1, hcz19_2, hcz19_3, hcz19_4, hcz19_5, hfz19_0, hfz19_1, hfz19_2, hfz19_3, hfz19_4, hfz19_5⟩ := cf6x6 BK267.out) | ((with_reducible refine gate_dst (N := 13) rfl ?_); refine Kd.R_lit (Kd.int .i64) _ 3 ?hg (N := 13) ?hd (xs := ([] : List Int)) (inner := []) (ok := fun _ => True) (okp := fun _ => True) ?hr ?hp (fun _ hk => hk) trivial (Below.refl _ _) (Nat.le_refl _) (by simp) ?_; (case hd => rfl); (case hg => rfl); (case hr => first | (go_simp; done) | (go_simp; rfl)); (case hp => exact (Reps.none _ _)); intro v282 w20 ho21 hb hg_ hnew_; clear hg_ hnew_; (first | rw [← Ny281.out] at ho21 | (simp only [Int.reduceToNat] at ho21; rw [← Ny281.out] at ho21)); have HO283 := Aside0.mk (Kd.R_lower (nwx6 (nwx6 ho21 (by (with_reducible repeat (first | apply Kd.R_alloc | apply Kd.R_drewN | apply Kd.R_drew)); exact (Kd.R_mono (Kd.R_far (p := ⟨gb267, 4, none⟩) (Kd.R_types HO274.out BK267.out (by decide)) (fun _ hk => hk.2) (.slice Ao18 y278.length co18)) (fun _ h_ => h_.1)))) (by (with_reducible repeat (first | apply Kd.R_alloc | apply Kd.R_drewN | apply Kd.R_drew)); exact (Kd.R_mono (Kd.R_far (p := ⟨gb267, 4, none⟩) (Kd.R_types HO280.out BK267.out (by decide)) (fun _ hk => hk.2) (.slice Ao18 y278.length co18)) (fun _ h_ => h_.1)))) (below_size (be2x6 HB.out GE267.out GE268.out))); replace HO274 := Aside0.mk (Kd.R_elder' (by (with_reducible repeat (first | apply Kd.R_alloc | apply Kd.R_drewN | apply Kd.R_drew)); exact (Kd.R_mono (Kd.R_far (p := ⟨gb267, 4, none⟩) (Kd.R_types HO274.out BK267.out (by decide)) (fun _ hk => hk.2) (.slice Ao18 y278.length co18)) (fun _ h_ => h_.1))) (Kd.R_base ho21) hb); replace HO280 := Aside0.mk (Kd.R_elder' (by (with_reducible repeat (first | apply Kd.R_alloc | apply Kd.R_drewN | apply Kd.R_drew)); exact (Kd.R_mono (Kd.R_far (p := ⟨gb267, 4, none⟩) (Kd.R_types HO280.out BK267.out (by decide)) (fun _ hk => hk.2) (.slice Ao18 y278.length co18)) (fun _ h_ => h_.1))) (Kd.R_base ho21) hb); replace BK267 := Aside0.mk (blk_below (g := gb267) (o := .cells #[.int .i64 a0_0, .int .i64 a0_1, .int .i64 a0_2, .slice Ao12 y272.length co12, .slice Ao18 y278.length co18, .slice A0_5 l0_5.length c0_5] 41 (0, 0)) (by (with_reducible repeat (first | refine blk_drewN ?_ _ | refine blk_drew ?_ | refine blk_alloc ?_ _)); refine blk_put (cs := #[.int .i64 a0_0, .int .i64 a0_1, .int .i64 a0_2, .slice Ao12 y272.length co12, .slice A0_4 l0_4.length c0_4, .slice A0_5 l0_5.length c0_5]) ?_ 4 _ rfl; (with_reducible repeat (first | refine blk_drewN ?_ _ | refine blk_drew ?_ | refine blk_alloc ?_ _)); exact BK267.out) hb); replace BK268 := Aside0.mk (blk_below (bb1x6 BK268.out NB268_267.out) hb); replace HB := Aside0.mk (below_step (be2x6 HB.out GE267.out GE268.out) hb); clear hb ho21; obtain ⟨hcz22_0, hcz22_1, hcz22_2, hcz22_3, hcz22_4, hcz22_5, hfz22_0, hfz22_1, hfz22_2, hfz22_3, hfz22_4, hfz22_5⟩ := cf6x6 BK267.out) | ((with_reducible refine gate_builtin (b := .append) (xs := #[.tmp 13, .tmp 15]) rfl ?_); at_builtin; refine Kd.R_append_rows (Kd.int .i64) (w0 := w) w.heap.size rfl (.tmp 13) (.tmp 15) 24 3 (.int .i64 0) 8 rfl Try.underlying24 info3 rfl (by decide) (by omega) v282 y281 l0_5 _ _ _ (fun k_ => some k_ ≠ (.slice Ao12 y272.length co12 : Value).ownBlock ∧ some k_ ≠ (.slice Ao18 y278.length co18 : Value).ownBlock) (fun _ => False) rfl rfl ?aO ?aR (fun _ _ h => h) (fun _ h => h.elim) ?aF ?aB ?aS ?aL ?_; (case aR => repeat (first | exact (Kd.C_below HR0_5.out HB.out) | (with_reducible refine Kd.C_alloc ?_ _) | (with_reducible refine Kd.C_drewN ?_ _) | (with_reducible refine Kd.C_drew ?_))); (case aB => exact (be2x6 HB.out GE267.out GE268.out)); (case aF => exact (fun k_ hk => ⟨Kd.fresh' (Kd.R_lt (rRx6 HO274.out)) k_ hk, Kd.fresh' (Kd.R_lt (rRx6 HO280.out)) k_ hk⟩)); (case aO => exact (by exact rRx6 (mox6 HO283.out))); (case aS => exact (below_size (be2x6 HB.out GE267.out GE268.out))); (case aL => have := LMc4.out; omega); intro v285 w23 ho hb hg hat; rw [← Ny284.out] at ho; replace BK267 := Aside0.mk (blk_grown (g := gb267) (o := .cells #[.int .i64 a0_0, .int .i64 a0_1, .int .i64 a0_2, .slice Ao12 y272.length co12, .slice Ao18 y278.length co18, .slice A0_5 l0_5.length c0_5] 41 (0, 0)) (rBx6 BK267.out) hg (Kd.R_ne HO283.out BK267.out (by decide))); replace BK268 := Aside0.mk (blk_grown (g := gb268) (o := .cells #[.int .i64 0, .int .i64 0, .int .i64 0, .slice none 0 0, .slice none 0 0, .slice none 0 0] 41 (0, 0)) (rBx6 BK268.out) hg (Kd.R_ne HO283.out BK268.out (by decide))); replace HO274 := Aside0.mk (Kd.R_after (ok := (fun k_ => some k_ ≠ (.slice Ao18 y278.length co18 : Value).ownBlock)) (by exact rRx6 (mox6 HO274.out)) hg hat); replace HO280 := Aside0.mk (Kd.R_after (ok := (fun k_ => some k_ ≠ (.slice Ao12 y272.length co12 : Value).ownBlock)) (rRx6 HO280.out) hg hat); replace HB := Aside0.mk (hb); have HO286 := Aside0.mk (ho); clear HO283 ho hb hg hat; obtain ⟨Ao24, co24, eo24⟩ := Kd.R_slice HO286.out; subst eo24; obtain ⟨hcz25_0, hcz25_1, hcz25_2, hcz25_3, hcz25_4, hcz25_5, hfz25_0, hfz25_1, hfz25_2, hfz25_3, hfz25_4, hfz25_5⟩ := cf6x6 BK267.out; obtain ⟨hcz26_0, hcz26_1, hcz26_2, hcz26_3, hcz26_4, hcz26_5, hfz26_0, hfz26_1, hfz26_2, hfz26_3, hfz26_4, hfz26_5⟩ := cf6x6 BK268.out))
    refine bodyPost_ret (results_cell_row rfl _ _ gb268 41 #[.int .i64 a0_0, .int .i64 a0_1, .int .i64 a0_2, .slice Ao12 y272.length co12, .slice Ao18 y278.length co18, .slice Ao24 y284.length co24] (0, 0) _ rfl (by (with_reducible repeat (first | refine blk_drewN ?_ _ | refine blk_drew ?_ | refine blk_alloc ?_ _)); refine blk_put (cs := #[.int .i64 a0_0, .int .i64 a0_1, .int .i64 a0_2, .slice Ao12 y272.length co12, .slice Ao18 y278.length co18, .slice none 0 0]) ?_ 5 _ rfl; (with_reducible repeat (first | refine blk_drewN ?_ _ | refine blk_drew ?_ | refine blk_alloc ?_ _)); refine blk_put (cs := #[.int .i64 a0_0, .int .i64 a0_1, .int .i64 a0_2, .slice Ao12 y272.length co12, .slice none 0 0, .slice none 0 0]) ?_ 4 _ rfl; (with_reducible repeat (first | refine blk_drewN ?_ _ | refine blk_drew ?_ | refine blk_alloc ?_ _)); refine blk_put (cs := #[.int .i64 a0_0, .int .i64 a0_1, .int .i64 a0_2, .slice none 0 0, .slice none 0 0, .slice none 0 0]) ?_ 3 _ rfl; (with_reducible repeat (first | refine blk_drewN ?_ _ | refine blk_drew ?_ | refine blk_alloc ?_ _)); refine blk_put (cs := #[.int .i64 a0_0, .int .i64 a0_1, .int .i64 0, .slice none 0 0, .slice none 0 0, .slice none 0 0]) ?_ 2 _ rfl; (with_reducible repeat (first | refine blk_drewN ?_ _ | refine blk_drew ?_ | refine blk_alloc ?_ _)); refine blk_put (cs := #[.int .i64 a0_0, .int .i64 0, .int .i64 0, .slice none 0 0, .slice none 0 0, .slice none 0 0]) ?_ 1 _ rfl; (with_reducible repeat (first | refine blk_drewN ?_ _ | refine blk_drew ?_ | refine blk_alloc ?_ _)); refine blk_put (cs := #[.int .i64 0, .int .i64 0, .int .i64 0, .slice none 0 0, .slice none 0 0, .slice none 0 0]) ?_ 0 _ rfl; (with_reducible repeat (first | refine blk_drewN ?_ _ | refine blk_drew ?_ | refine blk_alloc ?_ _)); refine blk_far ?_ NB268_267.out _; (with_reducible repeat (first | refine blk_drewN ?_ _ | refine blk_drew ?_ | refine blk_alloc ?_ _)); exact BK268.out) Try.underlying41 rfl (by kernel_rfl)) rfl ?_
    exact ⟨_, _, _, by first | rfl | (simp [errW_none, errW_some] <;> rfl) | (simp [*, errW_none, errW_some] <;> rfl), by (with_reducible repeat (first | apply Kd.R_alloc | apply Kd.R_drewN | apply Kd.R_drew)); exact Kd.R_mono (Kd.R_far (p := ⟨gb268, 5, none⟩) (Kd.R_far (p := ⟨gb268, 4, none⟩) (Kd.R_far (p := ⟨gb268, 3, none⟩) (Kd.R_far (p := ⟨gb268, 2, none⟩) (Kd.R_far (p := ⟨gb268, 1, none⟩) (Kd.R_far (p := ⟨gb268, 0, none⟩) (Kd.R_far (p := ⟨gb267, 5, none⟩) (Kd.R_types (Kd.R_types HO274.out BK267.out (by decide)) BK268.out (by decide)) (fun _ hk => hk.1.2) (.slice Ao24 y284.length co24)) (fun _ hk => hk.2) (.int .i64 a0_0)) (fun _ hk => hk.2) (.int .i64 a0_1)) (fun _ hk => hk.2) (.int .i64 a0_2)) (fun _ hk => hk.2) (.slice Ao12 y272.length co12)) (fun _ hk => hk.2) (.slice Ao18 y278.length co18)) (fun _ hk => hk.2) (.slice Ao24 y284.length co24)) (fun _ hk => ⟨hk.1.1.1, hk.1.1.2⟩), by (with_reducible repeat (first | apply Kd.R_alloc | apply Kd.R_drewN | apply Kd.R_drew)); exact Kd.R_mono (Kd.R_far (p := ⟨gb268, 5, none⟩) (Kd.R_far (p := ⟨gb268, 4, none⟩) (Kd.R_far (p := ⟨gb268, 3, none⟩) (Kd.R_far (p := ⟨gb268, 2, none⟩) (Kd.R_far (p := ⟨gb268, 1, none⟩) (Kd.R_far (p := ⟨gb268, 0, none⟩) (Kd.R_far (p := ⟨gb267, 5, none⟩) (Kd.R_types (Kd.R_types HO280.out BK267.out (by decide)) BK268.out (by decide)) (fun _ hk => hk.1.2) (.slice Ao24 y284.length co24)) (fun _ hk => hk.2) (.int .i64 a0_0)) (fun _ hk => hk.2) (.int .i64 a0_1)) (fun _ hk => hk.2) (.int .i64 a0_2)) (fun _ hk => hk.2) (.slice Ao12 y272.length co12)) (fun _ hk => hk.2) (.slice Ao18 y278.length co18)) (fun _ hk => hk.2) (.slice Ao24 y284.length co24)) (fun _ hk => ⟨hk.1.1.1, hk.1.1.2⟩), by (with_reducible repeat (first | apply Kd.R_alloc | apply Kd.R_drewN | apply Kd.R_drew)); exact Kd.R_mono (Kd.R_far (p := ⟨gb268, 5, none⟩) (Kd.R_far (p := ⟨gb268, 4, none⟩) (Kd.R_far (p := ⟨gb268, 3, none⟩) (Kd.R_far (p := ⟨gb268, 2, none⟩) (Kd.R_far (p := ⟨gb268, 1, none⟩) (Kd.R_far (p := ⟨gb268, 0, none⟩) (Kd.R_far (p := ⟨gb267, 5, none⟩) (Kd.R_types (Kd.R_types HO286.out BK267.out (by decide)) BK268.out (by decide)) (fun _ hk => hk.1.2) (.slice Ao24 y284.length co24)) (fun _ hk => hk.2) (.int .i64 a0_0)) (fun _ hk => hk.2) (.int .i64 a0_1)) (fun _ hk => hk.2) (.int .i64 a0_2)) (fun _ hk => hk.2) (.slice Ao12 y272.length co12)) (fun _ hk => hk.2) (.slice Ao18 y278.length co18)) (fun _ hk => hk.2) (.slice Ao24 y284.length co24)) (fun _ hk => ⟨hk.1.1.1, hk.1.1.2⟩), be2x6 HB.out GE267.out GE268.out⟩
   ·rw [if_neg c4] at H
    exact absurd H (by simp)
  ·rw [if_neg c3] at H
   exact absurd H (by simp)
 ·rw [if_neg c2] at H
  exact absurd H (by simp)

/-! ### impl_IsGrid: function 127 -/
def impl_IsGrid.f (a0_0 : Int) (a0_1 : Int) (a0_2 : Int) : Option (Bool) := if a0_0 ≥ 1 then (if a0_0 ≤ 8 then (if a0_1 ≥ 1 then (if a0_1 ≤ 6 then (if a0_2 ≥ 1 then (if a0_2 ≤ 5 then (some (decide ((wrap64 ((wrap64 (a0_0 * a0_1)) * a0_2)) ≤ 120))) else (some false)) else (some false)) else (some false)) else (some false)) else (some false)) else (some false)
set_option maxHeartbeats 8000000 in
set_option maxRecDepth 100000 in
theorem impl_IsGrid.calls (a0_0 : Int) (a0_1 : Int) (a0_2 : Int) (r : Bool) (w : World) (h : impl_IsGrid.f a0_0 a0_1 a0_2 = some r) :
  Calls Try.prog 127 #[.agg #[.int .i64 a0_0, .int .i64 a0_1, .int .i64 a0_2]] w fun e w' => e = .returned (.bool r) ∧ Below w.heap.size w w' := by
 have hu39 := Try.underlying39
 have HB := Aside0.mk (Below.refl w.heap.size w)
 have H : (if a0_0 ≥ 1 then (if a0_0 ≤ 8 then (if a0_1 ≥ 1 then (if a0_1 ≤ 6 then (if a0_2 ≥ 1 then (if a0_2 ≤ 5 then (some (decide ((wrap64 ((wrap64 (a0_0 * a0_1)) * a0_2)) ≤ 120))) else (some false)) else (some false)) else (some false)) else (some false)) else (some false)) else (some false)) = some r := h
 clear h
 by_cases c2 : a0_0 ≥ 1
 ·rw [if_pos c2] at H
  have c2b0 : decide (1 ≤ a0_0) = true := decide_eq_true c2
  clear c2
  by_cases c3 : a0_0 ≤ 8
  ·rw [if_pos c3] at H
   have c3b0 : decide (a0_0 ≤ 8) = true := decide_eq_true c3
   clear c3
   by_cases c4 : a0_1 ≥ 1
   ·rw [if_pos c4] at H
    have c4b0 : decide (1 ≤ a0_1) = true := decide_eq_true c4
    clear c4
    by_cases c5 : a0_1 ≤ 6
    ·rw [if_pos c5] at H
     have c5b0 : decide (a0_1 ≤ 6) = true := decide_eq_true c5
     clear c5
     by_cases c6 : a0_2 ≥ 1
     ·rw [if_pos c6] at H
      have c6b0 : decide (1 ≤ a0_2) = true := decide_eq_true c6
      clear c6
      by_cases c7 : a0_2 ≤ 5
      ·rw [if_pos c7] at H
       have c7b0 : decide (a0_2 ≤ 5) = true := decide_eq_true c7
       clear c7
       obtain rfl := Option.some.inj H
       go_enter Try.func127, Try.ntmps127
       go_wp2_with (first | ((with_reducible refine gate_dst (N := 1) rfl ?_); refine box_event ?hg (N := 1) ?hd (cs := #[.int .i64 a0_0, .int .i64 a0_1, .int .i64 a0_2]) (t := 39) ?hr ?_; (case hd => rfl); (case hg => rfl); (case hr => first | (go_simp; done) | (go_simp; rfl)); intro gb287 hg w8 hbox hb; have BK287 := Aside0.mk (hbox); have GW287 := Aside0.mk ((by rw [hg]; exact (below_size (be0x6 HB.out)) : w.heap.size ≤ gb287)); have GE287 := Aside0.mk ((by rw [hg]; exact (below_size (be0x6 HB.out)) : w.heap.size ≤ gb287)); replace HB := Aside0.mk (below_step (be0x6 HB.out) hb); clear hb hbox hg; obtain ⟨hcz9_0, hcz9_1, hcz9_2, hfz9_0, hfz9_1, hfz9_2⟩ := cf3x6 BK287.out))
       go_ret
       exact ⟨by first | rfl | (simp [errW_none, errW_some] <;> rfl) | (simp [*, errW_none, errW_some] <;> rfl), be1x6 HB.out GE287.out⟩
      ·rw [if_neg c7] at H
       have c7b0 : decide (a0_2 ≤ 5) = false := decide_eq_false c7
       clear c7
       obtain rfl := Option.some.inj H
       go_enter Try.func127, Try.ntmps127
       go_wp2_with (first | ((with_reducible refine gate_dst (N := 1) rfl ?_); refine box_event ?hg (N := 1) ?hd (cs := #[.int .i64 a0_0, .int .i64 a0_1, .int .i64 a0_2]) (t := 39) ?hr ?_; (case hd => rfl); (case hg => rfl); (case hr => first | (go_simp; done) | (go_simp; rfl)); intro gb287 hg w10 hbox hb; have BK287 := Aside0.mk (hbox); have GW287 := Aside0.mk ((by rw [hg]; exact (below_size (be0x6 HB.out)) : w.heap.size ≤ gb287)); have GE287 := Aside0.mk ((by rw [hg]; exact (below_size (be0x6 HB.out)) : w.heap.size ≤ gb287)); replace HB := Aside0.mk (below_step (be0x6 HB.out) hb); clear hb hbox hg; obtain ⟨hcz11_0, hcz11_1, hcz11_2, hfz11_0, hfz11_1, hfz11_2⟩ := cf3x6 BK287.out))
       go_ret
       exact ⟨by first | rfl | (simp [errW_none, errW_some] <;> rfl) | (simp [*, errW_none, errW_some] <;> rfl), be1x6 HB.out GE287.out⟩
     ·rw [if_neg c6] at H
      have c6b0 : decide (1 ≤ a0_2) = false := decide_eq_false c6
      clear c6
      obtain rfl := Option.some.inj H
      go_enter Try.func127, Try.ntmps127
      go_wp2_with (first | ((with_reducible refine gate_dst (N := 1) rfl ?_); refine box_event ?hg (N := 1) ?hd (cs := #[.int .i64 a0_0, .int .i64 a0_1, .int .i64 a0_2]) (t := 39) ?hr ?_; (case hd => rfl); (case hg => rfl); (case hr => first | (go_simp; done) | (go_simp; rfl)); intro gb287 hg w12 hbox hb; have BK287 := Aside0.mk (hbox); have GW287 := Aside0.mk ((by rw [hg]; exact (below_size (be0x6 HB.out)) : w.heap.size ≤ gb287)); have GE287 := Aside0.mk ((by rw [hg]; exact (below_size (be0x6 HB.out)) : w.heap.size ≤ gb287)); replace HB := Aside0.mk (below_step (be0x6 HB.out) hb); clear hb hbox hg; obtain ⟨hcz13_0, hcz13_1, hcz13_2, hfz13_0, hfz13_1, hfz13_2⟩ := cf3x6 BK287.out))
      go_ret
      exact ⟨by first | rfl | (simp [errW_none, errW_some] <;> rfl) | (simp [*, errW_none, errW_some] <;> rfl), be1x6 HB.out GE287.out⟩
    ·rw [if_neg c5] at H
     have c5b0 : decide (a0_1 ≤ 6) = false := decide_eq_false c5
     clear c5
     obtain rfl := Option.some.inj H
     go_enter Try.func127, Try.ntmps127
     go_wp2_with (first | ((with_reducible refine gate_dst (N := 1) rfl ?_); refine box_event ?hg (N := 1) ?hd (cs := #[.int .i64 a0_0, .int .i64 a0_1, .int .i64 a0_2]) (t := 39) ?hr ?_; (case hd => rfl); (case hg => rfl); (case hr => first | (go_simp; done) | (go_simp; rfl)); intro gb287 hg w14 hbox hb; have BK287 := Aside0.mk (hbox); have GW287 := Aside0.mk ((by rw [hg]; exact (below_size (be0x6 HB.out)) : w.heap.size ≤ gb287)); have GE287 := Aside0.mk ((by rw [hg]; exact (below_size (be0x6 HB.out)) : w.heap.size ≤ gb287)); replace HB := Aside0.mk (below_step (be0x6 HB.out) hb); clear hb hbox hg; obtain ⟨hcz15_0, hcz15_1, hcz15_2, hfz15_0, hfz15_1, hfz15_2⟩ := cf3x6 BK287.out))
     go_ret
     exact ⟨by first | rfl | (simp [errW_none, errW_some] <;> rfl) | (simp [*, errW_none, errW_some] <;> rfl), be1x6 HB.out GE287.out⟩
   ·rw [if_neg c4] at H
    have c4b0 : decide (1 ≤ a0_1) = false := decide_eq_false c4
    clear c4
    obtain rfl := Option.some.inj H
    go_enter Try.func127, Try.ntmps127
    go_wp2_with (first | ((with_reducible refine gate_dst (N := 1) rfl ?_); refine box_event ?hg (N := 1) ?hd (cs := #[.int .i64 a0_0, .int .i64 a0_1, .int .i64 a0_2]) (t := 39) ?hr ?_; (case hd => rfl); (case hg => rfl); (case hr => first | (go_simp; done) | (go_simp; rfl)); intro gb287 hg w16 hbox hb; have BK287 := Aside0.mk (hbox); have GW287 := Aside0.mk ((by rw [hg]; exact (below_size (be0x6 HB.out)) : w.heap.size ≤ gb287)); have GE287 := Aside0.mk ((by rw [hg]; exact (below_size (be0x6 HB.out)) : w.heap.size ≤ gb287)); replace HB := Aside0.mk (below_step (be0x6 HB.out) hb); clear hb hbox hg; obtain ⟨hcz17_0, hcz17_1, hcz17_2, hfz17_0, hfz17_1, hfz17_2⟩ := cf3x6 BK287.out))
    go_ret
    exact ⟨by first | rfl | (simp [errW_none, errW_some] <;> rfl) | (simp [*, errW_none, errW_some] <;> rfl), be1x6 HB.out GE287.out⟩
  ·rw [if_neg c3] at H
   have c3b0 : decide (a0_0 ≤ 8) = false := decide_eq_false c3
   clear c3
   obtain rfl := Option.some.inj H
   go_enter Try.func127, Try.ntmps127
   go_wp2_with (first | ((with_reducible refine gate_dst (N := 1) rfl ?_); refine box_event ?hg (N := 1) ?hd (cs := #[.int .i64 a0_0, .int .i64 a0_1, .int .i64 a0_2]) (t := 39) ?hr ?_; (case hd => rfl); (case hg => rfl); (case hr => first | (go_simp; done) | (go_simp; rfl)); intro gb287 hg w18 hbox hb; have BK287 := Aside0.mk (hbox); have GW287 := Aside0.mk ((by rw [hg]; exact (below_size (be0x6 HB.out)) : w.heap.size ≤ gb287)); have GE287 := Aside0.mk ((by rw [hg]; exact (below_size (be0x6 HB.out)) : w.heap.size ≤ gb287)); replace HB := Aside0.mk (below_step (be0x6 HB.out) hb); clear hb hbox hg; obtain ⟨hcz19_0, hcz19_1, hcz19_2, hfz19_0, hfz19_1, hfz19_2⟩ := cf3x6 BK287.out))
   go_ret
   exact ⟨by first | rfl | (simp [errW_none, errW_some] <;> rfl) | (simp [*, errW_none, errW_some] <;> rfl), be1x6 HB.out GE287.out⟩
 ·rw [if_neg c2] at H
  have c2b0 : decide (1 ≤ a0_0) = false := decide_eq_false c2
  clear c2
  obtain rfl := Option.some.inj H
  go_enter Try.func127, Try.ntmps127
  go_wp2_with (first | ((with_reducible refine gate_dst (N := 1) rfl ?_); refine box_event ?hg (N := 1) ?hd (cs := #[.int .i64 a0_0, .int .i64 a0_1, .int .i64 a0_2]) (t := 39) ?hr ?_; (case hd => rfl); (case hg => rfl); (case hr => first | (go_simp; done) | (go_simp; rfl)); intro gb287 hg w20 hbox hb; have BK287 := Aside0.mk (hbox); have GW287 := Aside0.mk ((by rw [hg]; exact (below_size (be0x6 HB.out)) : w.heap.size ≤ gb287)); have GE287 := Aside0.mk ((by rw [hg]; exact (below_size (be0x6 HB.out)) : w.heap.size ≤ gb287)); replace HB := Aside0.mk (below_step (be0x6 HB.out) hb); clear hb hbox hg; obtain ⟨hcz21_0, hcz21_1, hcz21_2, hfz21_0, hfz21_1, hfz21_2⟩ := cf3x6 BK287.out))
  go_ret
  exact ⟨by first | rfl | (simp [errW_none, errW_some] <;> rfl) | (simp [*, errW_none, errW_some] <;> rfl), be1x6 HB.out GE287.out⟩

/-! ### impl_blocksOf: function 128 -/
def impl_blocksOf.f (a0_0 : Int) (a0_1 : Int) (a0_2 : Int) : Option (Int) := some (wrap64 ((wrap64 (a0_0 * a0_1)) * a0_2))
set_option maxHeartbeats 8000000 in
set_option maxRecDepth 100000 in
theorem impl_blocksOf.calls (a0_0 : Int) (a0_1 : Int) (a0_2 : Int) (r : Int) (w : World) (h : impl_blocksOf.f a0_0 a0_1 a0_2 = some r) :
  Calls Try.prog 128 #[.agg #[.int .i64 a0_0, .int .i64 a0_1, .int .i64 a0_2]] w fun e w' => e = .returned (.int .i64 r) ∧ Below w.heap.size w w' := by
 have hu39 := Try.underlying39
 have HB := Aside0.mk (Below.refl w.heap.size w)
 have H : (some (wrap64 ((wrap64 (a0_0 * a0_1)) * a0_2))) = some r := h
 clear h
 obtain rfl := Option.some.inj H
 go_enter Try.func128, Try.ntmps128
 go_wp2_with (first | ((with_reducible refine gate_dst (N := 1) rfl ?_); refine box_event ?hg (N := 1) ?hd (cs := #[.int .i64 a0_0, .int .i64 a0_1, .int .i64 a0_2]) (t := 39) ?hr ?_; (case hd => rfl); (case hg => rfl); (case hr => first | (go_simp; done) | (go_simp; rfl)); intro gb288 hg w2 hbox hb; have BK288 := Aside0.mk (hbox); have GW288 := Aside0.mk ((by rw [hg]; exact (below_size (be0x6 HB.out)) : w.heap.size ≤ gb288)); have GE288 := Aside0.mk ((by rw [hg]; exact (below_size (be0x6 HB.out)) : w.heap.size ≤ gb288)); replace HB := Aside0.mk (below_step (be0x6 HB.out) hb); clear hb hbox hg; obtain ⟨hcz3_0, hcz3_1, hcz3_2, hfz3_0, hfz3_1, hfz3_2⟩ := cf3x6 BK288.out))
 go_ret
 exact ⟨by first | rfl | (simp [errW_none, errW_some] <;> rfl) | (simp [*, errW_none, errW_some] <;> rfl), be1x6 HB.out GE288.out⟩

end Go.Proofs.Ytagnldmaglbpaaa.PFnExactUpdateAll
