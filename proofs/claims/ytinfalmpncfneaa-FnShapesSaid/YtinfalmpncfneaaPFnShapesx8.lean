/- This text is this session's own: written by a program of its own that goes the same way as print.sh (wip/ownprint.py says what it does otherwise). -/
import Derived.Test.YtinfalmpncfneaaPFnShapesx0
import Derived.Test.YtinfalmpncfneaaPFnShapesx5
namespace Go.Proofs.Ytinfalmpncfneaa.PFnShapes
open Go.RowKit Go.Proofs.YtinfalmpncfneaaW.PrintWords Go.Proofs.YtinfalmpncfneaaW.PrintLast Go.Proofs.YtinfalmpncfneaaW.PrintMore
attribute [local go_sem] max2_int min2_int max_two min_two max_three min_three max_four min_four   -- for this text's walks alone
set_option linter.unusedVariables false
set_option linter.unusedSimpArgs false

/-! ### spec_IslandsOf: function 48 -/
mutual
def spec_IslandsOf.l0 : Nat → List Bool → List Bool → Int → List Bool → Int → Int → Int → Int → List Int → Option (Int × Bool)
  | 0, _, _, _, _, _, _, _, _, _ => none
  | k + 1, x1, x6, x7, x21, x22, x23, x341000, x341001, x341002 => if x23 < x22 then (if 0 ≤ x23 then (if x23 < (x21.length : Int) then (if rdOf false x21 x23 = true then (if x23 < (x6.length : Int) then (spec_IslandsOf.j1 k x1 x6 x7 x23 x21 x22 x23 (rdOf false x6 x23) x341000 x341001 x341002) else (none)) else (spec_IslandsOf.j1 k x1 x6 x7 x23 x21 x22 x23 true x341000 x341001 x341002)) else (none)) else (none)) else (some (x7, true))
def spec_IslandsOf.j1 : Nat → List Bool → List Bool → Int → Int → List Bool → Int → Int → Bool → Int → Int → List Int → Option (Int × Bool)
  | 0, _, _, _, _, _, _, _, _, _, _, _ => none
  | k + 1, x1, x6, x7, x8, x21, x22, x23, x35, x341000, x341001, x341002 => if x35 = true then (spec_IslandsOf.l0 k x1 x6 x7 x21 x22 (wrap64 (x23 + 1)) x341000 x341001 x341002) else (if 0 ≤ x8 then (if x8 < (x6.length : Int) then (spec_IslandsOf.l1 k x1 (x6.set (x8 : Int).toNat true) (wrap64 (x7 + 1)) (([x8] : List Int)) 0 x21 x22 x23 x341000 x341001 x341002) else (none)) else (none))
def spec_IslandsOf.l1 : Nat → List Bool → List Bool → Int → List Int → Int → List Bool → Int → Int → Int → Int → List Int → Option (Int × Bool)
  | 0, _, _, _, _, _, _, _, _, _, _, _ => none
  | k + 1, x1, x6, x7, x10, x11, x21, x22, x23, x341000, x341001, x341002 => if x11 < (x10.length : Int) then (if 0 ≤ x11 then ((spec_dgSides.f k x341000 x341001 x341002 (rd x10 x11)).bind fun t352 => (spec_IslandsOf.l2 k x1 x6 x7 x10 x11 x21 x22 x23 t352 (t352.length : Int) 0 x341000 x341001 x341002)) else (none)) else (spec_IslandsOf.l0 k x1 x6 x7 x21 x22 (wrap64 (x23 + 1)) x341000 x341001 x341002)
def spec_IslandsOf.l2 : Nat → List Bool → List Bool → Int → List Int → Int → List Bool → Int → Int → List Int → Int → Int → Int → Int → List Int → Option (Int × Bool)
  | 0, _, _, _, _, _, _, _, _, _, _, _, _, _, _ => none
  | k + 1, x1, x6, x7, x10, x11, x21, x22, x23, x54, x55, x56, x341000, x341001, x341002 => if x56 < x55 then (if 0 ≤ x56 then (if x56 < (x54.length : Int) then (if (rd x54 x56) ≥ 0 then (if 0 ≤ (rd x54 x56) then (if (rd x54 x56) < (x1.length : Int) then (if rdOf false x1 (rd x54 x56) = true then (if (rd x54 x56) < (x6.length : Int) then (if (rdOf false x6 (rd x54 x56) = true) then (spec_IslandsOf.l2 k x1 x6 x7 x10 x11 x21 x22 x23 x54 x55 (wrap64 (x56 + 1)) x341000 x341001 x341002) else (if x10.length < 17592186044416 then (spec_IslandsOf.l2 k x1 (x6.set ((rd x54 x56) : Int).toNat true) x7 (x10 ++ [rd x54 x56]) x11 x21 x22 x23 x54 x55 (wrap64 (x56 + 1)) x341000 x341001 x341002) else (none))) else (none)) else (spec_IslandsOf.l2 k x1 x6 x7 x10 x11 x21 x22 x23 x54 x55 (wrap64 (x56 + 1)) x341000 x341001 x341002)) else (none)) else (none)) else (spec_IslandsOf.l2 k x1 x6 x7 x10 x11 x21 x22 x23 x54 x55 (wrap64 (x56 + 1)) x341000 x341001 x341002)) else (none)) else (none)) else (spec_IslandsOf.l1 k x1 x6 x7 x10 (wrap64 (x11 + 1)) x21 x22 x23 x341000 x341001 x341002)
end
def spec_IslandsOf.f (k : Nat) (a0_0 : Int) (a0_1 : Int) (l0_2 : List Int) (l1 : List Bool) : Option (Int × Bool) := (spec_dgBoth.f k a0_0 a0_1 l0_2 l1).bind fun t341 => (if t341 = true then (if 0 ≤ (l1.length : Int) then (if ((l1.length : Int) : Int).toNat ≤ 281474976710656 then (spec_IslandsOf.l0 k l1 (List.replicate ((l1.length : Int) : Int).toNat false) 0 l1 (l1.length : Int) 0 a0_0 a0_1 l0_2) else (none)) else (none)) else (some (0, false)))
theorem spec_IslandsOf.mono_l : ∀ k, (∀ y0 y1 y2 y3 y4 y5 y6 y7 y8, LeO (spec_IslandsOf.l0 k y0 y1 y2 y3 y4 y5 y6 y7 y8) (spec_IslandsOf.l0 (k + 1) y0 y1 y2 y3 y4 y5 y6 y7 y8)) ∧ (∀ y0 y1 y2 y3 y4 y5 y6 y7 y8 y9 y10, LeO (spec_IslandsOf.j1 k y0 y1 y2 y3 y4 y5 y6 y7 y8 y9 y10) (spec_IslandsOf.j1 (k + 1) y0 y1 y2 y3 y4 y5 y6 y7 y8 y9 y10)) ∧ (∀ y0 y1 y2 y3 y4 y5 y6 y7 y8 y9 y10, LeO (spec_IslandsOf.l1 k y0 y1 y2 y3 y4 y5 y6 y7 y8 y9 y10) (spec_IslandsOf.l1 (k + 1) y0 y1 y2 y3 y4 y5 y6 y7 y8 y9 y10)) ∧ (∀ y0 y1 y2 y3 y4 y5 y6 y7 y8 y9 y10 y11 y12 y13, LeO (spec_IslandsOf.l2 k y0 y1 y2 y3 y4 y5 y6 y7 y8 y9 y10 y11 y12 y13) (spec_IslandsOf.l2 (k + 1) y0 y1 y2 y3 y4 y5 y6 y7 y8 y9 y10 y11 y12 y13))
  | 0 => ⟨fun _ _ _ _ _ _ _ _ _ r h => by simp [spec_IslandsOf.l0] at h, fun _ _ _ _ _ _ _ _ _ _ _ r h => by simp [spec_IslandsOf.j1] at h, fun _ _ _ _ _ _ _ _ _ _ _ r h => by simp [spec_IslandsOf.l1] at h, fun _ _ _ _ _ _ _ _ _ _ _ _ _ _ r h => by simp [spec_IslandsOf.l2] at h⟩
  | k + 1 => by
    obtain ⟨ih0, ih1, ih2, ih3⟩ := spec_IslandsOf.mono_l k
    refine ⟨?_, ?_, ?_, ?_⟩
    · intro y0 y1 y2 y3 y4 y5 y6 y7 y8
      unfold spec_IslandsOf.l0
      repeat' first
      | (with_reducible exact ih0 _ _ _ _ _ _ _ _ _)
      | (with_reducible exact ih1 _ _ _ _ _ _ _ _ _ _ _)
      | (with_reducible exact ih2 _ _ _ _ _ _ _ _ _ _ _)
      | (with_reducible exact ih3 _ _ _ _ _ _ _ _ _ _ _ _ _ _)
      | (with_reducible exact spec_dgBoth.mono _ _ _ _ _)
      | (with_reducible exact spec_dgSides.mono _ _ _ _ _)
      | (with_reducible exact LeO.refl _)
      | (with_reducible exact LeO.none _)
      | (with_reducible refine LeO.ite ?_ ?_)
      | (with_reducible refine LeO.bind ?_ (fun _ => ?_))
      | exact ih0 _ _ _ _ _ _ _ _ _
      | exact ih1 _ _ _ _ _ _ _ _ _ _ _
      | exact ih2 _ _ _ _ _ _ _ _ _ _ _
      | exact ih3 _ _ _ _ _ _ _ _ _ _ _ _ _ _
      | exact spec_dgBoth.mono _ _ _ _ _
      | exact spec_dgSides.mono _ _ _ _ _
      | exact LeO.none _
      | refine LeO.ite ?_ ?_
      | refine LeO.bind ?_ (fun _ => ?_)
    · intro y0 y1 y2 y3 y4 y5 y6 y7 y8 y9 y10
      unfold spec_IslandsOf.j1
      repeat' first
      | (with_reducible exact ih0 _ _ _ _ _ _ _ _ _)
      | (with_reducible exact ih1 _ _ _ _ _ _ _ _ _ _ _)
      | (with_reducible exact ih2 _ _ _ _ _ _ _ _ _ _ _)
      | (with_reducible exact ih3 _ _ _ _ _ _ _ _ _ _ _ _ _ _)
      | (with_reducible exact spec_dgBoth.mono _ _ _ _ _)
      | (with_reducible exact spec_dgSides.mono _ _ _ _ _)
      | (with_reducible exact LeO.refl _)
      | (with_reducible exact LeO.none _)
      | (with_reducible refine LeO.ite ?_ ?_)
      | (with_reducible refine LeO.bind ?_ (fun _ => ?_))
      | exact ih0 _ _ _ _ _ _ _ _ _
      | exact ih1 _ _ _ _ _ _ _ _ _ _ _
      | exact ih2 _ _ _ _ _ _ _ _ _ _ _
      | exact ih3 _ _ _ _ _ _ _ _ _ _ _ _ _ _
      | exact spec_dgBoth.mono _ _ _ _ _
      | exact spec_dgSides.mono _ _ _ _ _
      | exact LeO.none _
      | refine LeO.ite ?_ ?_
      | refine LeO.bind ?_ (fun _ => ?_)
    · intro y0 y1 y2 y3 y4 y5 y6 y7 y8 y9 y10
      unfold spec_IslandsOf.l1
      repeat' first
      | (with_reducible exact ih0 _ _ _ _ _ _ _ _ _)
      | (with_reducible exact ih1 _ _ _ _ _ _ _ _ _ _ _)
      | (with_reducible exact ih2 _ _ _ _ _ _ _ _ _ _ _)
      | (with_reducible exact ih3 _ _ _ _ _ _ _ _ _ _ _ _ _ _)
      | (with_reducible exact spec_dgBoth.mono _ _ _ _ _)
      | (with_reducible exact spec_dgSides.mono _ _ _ _ _)
      | (with_reducible exact LeO.refl _)
      | (with_reducible exact LeO.none _)
      | (with_reducible refine LeO.ite ?_ ?_)
      | (with_reducible refine LeO.bind ?_ (fun _ => ?_))
      | exact ih0 _ _ _ _ _ _ _ _ _
      | exact ih1 _ _ _ _ _ _ _ _ _ _ _
      | exact ih2 _ _ _ _ _ _ _ _ _ _ _
      | exact ih3 _ _ _ _ _ _ _ _ _ _ _ _ _ _
      | exact spec_dgBoth.mono _ _ _ _ _
      | exact spec_dgSides.mono _ _ _ _ _
      | exact LeO.none _
      | refine LeO.ite ?_ ?_
      | refine LeO.bind ?_ (fun _ => ?_)
    · intro y0 y1 y2 y3 y4 y5 y6 y7 y8 y9 y10 y11 y12 y13
      unfold spec_IslandsOf.l2
      repeat' first
      | (with_reducible exact ih0 _ _ _ _ _ _ _ _ _)
      | (with_reducible exact ih1 _ _ _ _ _ _ _ _ _ _ _)
      | (with_reducible exact ih2 _ _ _ _ _ _ _ _ _ _ _)
      | (with_reducible exact ih3 _ _ _ _ _ _ _ _ _ _ _ _ _ _)
      | (with_reducible exact spec_dgBoth.mono _ _ _ _ _)
      | (with_reducible exact spec_dgSides.mono _ _ _ _ _)
      | (with_reducible exact LeO.refl _)
      | (with_reducible exact LeO.none _)
      | (with_reducible refine LeO.ite ?_ ?_)
      | (with_reducible refine LeO.bind ?_ (fun _ => ?_))
      | exact ih0 _ _ _ _ _ _ _ _ _
      | exact ih1 _ _ _ _ _ _ _ _ _ _ _
      | exact ih2 _ _ _ _ _ _ _ _ _ _ _
      | exact ih3 _ _ _ _ _ _ _ _ _ _ _ _ _ _
      | exact spec_dgBoth.mono _ _ _ _ _
      | exact spec_dgSides.mono _ _ _ _ _
      | exact LeO.none _
      | refine LeO.ite ?_ ?_
      | refine LeO.bind ?_ (fun _ => ?_)
theorem spec_IslandsOf.mono : ∀ a0 a1 a2 a3 k, LeO (spec_IslandsOf.f k a0 a1 a2 a3) (spec_IslandsOf.f (k + 1) a0 a1 a2 a3) := by
  intro a0 a1 a2 a3 k
  obtain ⟨ih0, ih1, ih2, ih3⟩ := spec_IslandsOf.mono_l k
  unfold spec_IslandsOf.f
  repeat' first
      | (with_reducible exact ih0 _ _ _ _ _ _ _ _ _)
      | (with_reducible exact ih1 _ _ _ _ _ _ _ _ _ _ _)
      | (with_reducible exact ih2 _ _ _ _ _ _ _ _ _ _ _)
      | (with_reducible exact ih3 _ _ _ _ _ _ _ _ _ _ _ _ _ _)
      | (with_reducible exact spec_dgBoth.mono _ _ _ _ _)
      | (with_reducible exact spec_dgSides.mono _ _ _ _ _)
      | (with_reducible exact LeO.refl _)
      | (with_reducible exact LeO.none _)
      | (with_reducible refine LeO.ite ?_ ?_)
      | (with_reducible refine LeO.bind ?_ (fun _ => ?_))
      | exact ih0 _ _ _ _ _ _ _ _ _
      | exact ih1 _ _ _ _ _ _ _ _ _ _ _
      | exact ih2 _ _ _ _ _ _ _ _ _ _ _
      | exact ih3 _ _ _ _ _ _ _ _ _ _ _ _ _ _
      | exact spec_dgBoth.mono _ _ _ _ _
      | exact spec_dgSides.mono _ _ _ _ _
      | exact LeO.none _
      | refine LeO.ite ?_ ?_
      | refine LeO.bind ?_ (fun _ => ?_)
def spec_IslandsOf.T15 : Bool × List (List Nat × List Nat) := (true, [([], []), ([], []), ([], []), ([1, 2], [1, 2]), ([3], [3]), ([0, 4], [0, 4]), ([5], [5]), ([], [])])
def spec_IslandsOf.B15 : List Nat := [0, 0, 0, 6, 14, 31, 63, 0]
theorem spec_IslandsOf.tab15 : rtab .any (opsOf Try.f48 15) = spec_IslandsOf.T15 := by kernel_rfl
theorem spec_IslandsOf.bits15 : waitsOk spec_IslandsOf.T15.2 spec_IslandsOf.B15 = true := by kernel_rfl
set_option maxHeartbeats 8000000 in
set_option maxRecDepth 100000 in
theorem spec_IslandsOf.calls (k : Nat) (a0_0 : Int) (a0_1 : Int) (A0_2 : Option Addr) (c0_2 : Nat) (l0_2 : List Int) (A1 : Option Addr) (c1 : Nat) (l1 : List Bool) (r1 : Int) (r2 : Bool) (w : World) (hr0_2 : Kd.C (Kd.int .i64) w A0_2 l0_2.length l0_2) (hc0_2 : l0_2.length ≤ c0_2) (hr1 : Kd.C Kd.bool w A1 l1.length l1) (hc1 : l1.length ≤ c1) (h : spec_IslandsOf.f k a0_0 a0_1 l0_2 l1 = some (r1, r2)) :
    Calls Try.prog 48 #[.agg #[.int .i64 a0_0, .int .i64 a0_1, .slice A0_2 l0_2.length c0_2], .slice A1 l1.length c1] w fun e w' => e = .returned (.tuple #[.int .i64 r1, .bool r2]) ∧ Below w.heap.size w w' := by
  have hu61 := Try.underlying61
  have HR0_2 := Aside0.mk hr0_2
  have HC0_2 := Aside0.mk hc0_2
  clear hr0_2 hc0_2
  have HR1 := Aside0.mk hr1
  have HC1 := Aside0.mk hc1
  clear hr1 hc1
  have HB := Aside0.mk (Below.refl w.heap.size w)
  have H : ((spec_dgBoth.f k a0_0 a0_1 l0_2 l1).bind fun t341 => (if t341 = true then (if 0 ≤ (l1.length : Int) then (if ((l1.length : Int) : Int).toNat ≤ 281474976710656 then (spec_IslandsOf.l0 k l1 (List.replicate ((l1.length : Int) : Int).toNat false) 0 l1 (l1.length : Int) 0 a0_0 a0_1 l0_2) else (none)) else (none)) else (some (0, false)))) = some (r1, r2) := h
  clear h
  replace H := Option.bind_eq_some_iff.mp H
  obtain ⟨t341, A30, H⟩ := H
  replace H : (if t341 = true then (if 0 ≤ (l1.length : Int) then (if ((l1.length : Int) : Int).toNat ≤ 281474976710656 then (spec_IslandsOf.l0 k l1 (List.replicate ((l1.length : Int) : Int).toNat false) 0 l1 (l1.length : Int) 0 a0_0 a0_1 l0_2) else (none)) else (none)) else (some (0, false))) = some (r1, r2) := H
  have A3 := Aside0.mk A30
  clear A30
  by_cases c4 : t341 = true
  · subst c4
    have H1 : (if 0 ≤ (l1.length : Int) then (if ((l1.length : Int) : Int).toNat ≤ 281474976710656 then (spec_IslandsOf.l0 k l1 (List.replicate ((l1.length : Int) : Int).toNat false) 0 l1 (l1.length : Int) 0 a0_0 a0_1 l0_2) else (none)) else (none)) = some (r1, r2) := by rw [if_pos rfl] at H; exact H
    clear H
    have H := H1
    clear H1
    by_cases c5 : 0 ≤ (l1.length : Int)
    · rw [if_pos c5] at H
      have c5b0 := eq_true c5
      have c5b1 : decide (0 ≤ (l1.length : Int)) = true := decide_eq_true c5
      clear c5
      by_cases c6 : ((l1.length : Int) : Int).toNat ≤ 281474976710656
      · rw [if_pos c6] at H
        have c6b0 := eq_true c6
        have c6b1 : decide (((l1.length : Int) : Int).toNat ≤ 281474976710656) = true := decide_eq_true c6
        clear c6
        obtain ⟨y342, hy342⟩ : ∃ y_ : List Bool, y_ = (List.replicate ((l1.length : Int) : Int).toNat false) := ⟨_, rfl⟩
        replace H : (spec_IslandsOf.l0 k l1 y342 0 l1 (l1.length : Int) 0 a0_0 a0_1 l0_2) = some (r1, r2) := by first | (rw [hy342]; with_reducible exact H) | (have H2_ := (Option.bind_some _ _).symm.trans H; rw [hy342]; with_reducible exact H2_) | (have H2_ := (Option.bind_some _ _).symm.trans H; with_reducible exact H2_) | with_reducible exact H | (rw [hy342]; exact H) | exact H
        have Ny342 := Aside0.mk hy342
        clear hy342
        have H' := Aside0.mk H
        clear H
        go_enter Try.func48, Try.ntmps48
        go_wp2_with (first | ((with_reducible refine gate_dst (N := 2) rfl ?_); refine box_event ?hg (N := 2) ?hd (cs := #[.int .i64 a0_0, .int .i64 a0_1, .slice A0_2 l0_2.length c0_2]) (t := 61) ?hr ?_; (case hd => rfl); (case hg => rfl); (case hr => first | (go_simp; done) | (go_simp; rfl)); intro gb340 hg w7 hbox hb; have n0_ := Aside0.mk (below_step (by repeat (first | (with_reducible first | exact HB.out | apply below_alloc | apply pw_below_drewN | apply below_drew1) | exact HB.out)) hb); have n1_ := Aside0.mk (hbox); have n2_ := Aside0.mk ((by rw [hg]; exact (below_size (by repeat (first | (with_reducible first | exact HB.out | apply below_alloc | apply pw_below_drewN | apply below_drew1) | exact HB.out))) : w.heap.size ≤ gb340)); have n3_ := Aside0.mk ((by rw [hg]; exact (below_size (by repeat (first | (with_reducible first | exact HB.out | apply below_alloc | apply pw_below_drewN | apply below_drew1) | exact HB.out))) : w.heap.size ≤ gb340)); clear HB; have HB := n0_; have BK340 := n1_; have GW340 := n2_; have GE340 := n3_; clear n0_ n1_ n2_ n3_; clear hb hbox hg; have hcz8_0 : w7.cell? ⟨gb340, 0, none⟩ = some (.int .i64 a0_0) := (blk_cell BK340.out 0).trans rfl; have hcz8_1 : w7.cell? ⟨gb340, 1, none⟩ = some (.int .i64 a0_1) := (blk_cell BK340.out 1).trans rfl; have hcz8_2 : w7.cell? ⟨gb340, 2, none⟩ = some (.slice A0_2 l0_2.length c0_2) := (blk_cell BK340.out 2).trans rfl; have hfz8_0 := blk_frozen BK340.out 0; have hfz8_1 := blk_frozen BK340.out 1; have hfz8_2 := blk_frozen BK340.out 2) | ((with_reducible refine gate_callee (f := 166) rfl ?_); refine goesL_ (some 16) rfl rfl Try.func166 (by kernel_rfl) rfl #[.agg #[.int .i64 a0_0, .int .i64 a0_1, .slice A0_2 l0_2.length c0_2], .slice A1 l1.length c1] rfl (by (try simp only [List.map_toArray, List.map_cons, List.map_nil]); first | done | rfl | (simp only [List.length_drop, List.length_take]; rfl)) ?_; (with_reducible refine (spec_dgBoth.calls k a0_0 a0_1 _ _ l0_2 _ _ l1 true _ ?side1 ?side2 ?side3 ?side4 A3.out).mono ?_); (case side1 => repeat (first | exact (Kd.C_below HR0_2.out HB.out) | (with_reducible refine Kd.C_alloc ?_ _) | (with_reducible refine Kd.C_drewN ?_ _) | (with_reducible refine Kd.C_drew ?_))); (case side2 => exact HC0_2.out); (case side3 => repeat (first | exact (Kd.C_below HR1.out HB.out) | (with_reducible refine Kd.C_alloc ?_ _) | (with_reducible refine Kd.C_drewN ?_ _) | (with_reducible refine Kd.C_drew ?_))); (case side4 => exact HC1.out); rintro e w9 ⟨rfl, hb⟩; refine ⟨_, rfl, ?_⟩; have n0_ := Aside0.mk (blk_below (g := gb340) (o := .cells #[.int .i64 a0_0, .int .i64 a0_1, .slice A0_2 l0_2.length c0_2] 61 (0, 0)) (by (with_reducible repeat (first | refine blk_drewN ?_ _ | refine blk_drew ?_ | refine blk_alloc ?_ _)); exact BK340.out) hb); have n1_ := Aside0.mk (below_step (by repeat (first | (with_reducible first | exact HB.out | apply below_alloc | apply pw_below_drewN | apply below_drew1 | refine below_set ?_ GE340.out) | exact HB.out)) hb); clear BK340; clear HB; have BK340 := n0_; have HB := n1_; clear n0_ n1_; (try clear hb); (try clear hb2); (try clear hk); (try clear hi)) | ((with_reducible refine gate_dst (N := 20) rfl ?_); refine Kd.R_make Kd.bool _ 4 rfl (N := 20) rfl 62 _ _ rfl (l1.length : Int) rfl rfl Try.underlying62 (.bool false) 1 info4 rfl (by decide) (by omega) false (ok := fun _ => True) (okp := fun _ => True) rfl (fun _ hk => hk) trivial (of_decide_eq_true (by first | (with_reducible assumption) | assumption)) (Nat.le_trans (Nat.mul_le_mul_right _ (of_decide_eq_true (by first | (with_reducible assumption) | assumption) : (l1.length : Int).toNat ≤ 281474976710656)) (by omega)) (Below.refl _ _) (Nat.le_refl _) ?_; intro v343 w10 ho11 hb hg_ hnew_; clear hg_ hnew_; (first | rw [← Ny342.out] at ho11 | (simp only [Int.reduceToNat] at ho11; rw [← Ny342.out] at ho11)); have n0_ := Aside0.mk (Kd.R_lower ho11 (below_size (by repeat (first | (with_reducible first | exact HB.out | apply below_alloc | apply pw_below_drewN | apply below_drew1 | refine below_set ?_ GE340.out) | exact HB.out)))); have n1_ := Aside0.mk (blk_below (g := gb340) (o := .cells #[.int .i64 a0_0, .int .i64 a0_1, .slice A0_2 l0_2.length c0_2] 61 (0, 0)) (by (with_reducible repeat (first | refine blk_drewN ?_ _ | refine blk_drew ?_ | refine blk_alloc ?_ _)); exact BK340.out) hb); have n2_ := Aside0.mk (below_step (by repeat (first | (with_reducible first | exact HB.out | apply below_alloc | apply pw_below_drewN | apply below_drew1 | refine below_set ?_ GE340.out) | exact HB.out)) hb); clear BK340; clear HB; have HO344 := n0_; have BK340 := n1_; have HB := n2_; clear n0_ n1_ n2_; clear hb ho11))
        go_loopg [7, 23] k (fun kq v7 v23 w' => ∃ (x6_1 : List Bool) (x7_1 : Int) (x23_1 : Int), v7 = .int .i64 x7_1 ∧ v23 = .int .i64 x23_1 ∧ Aside0 (spec_IslandsOf.l0 kq l1 x6_1 x7_1 l1 (l1.length : Int) x23_1 a0_0 a0_1 l0_2 = some (r1, r2)) ∧ Aside0 (kq ≤ k) ∧ Aside0 (Kd.R Kd.bool 4 w' w.heap.size (fun _ => True) v343 x6_1) ∧ Aside0 (w'.heap[gb340]? = some (.cells #[.int .i64 a0_0, .int .i64 a0_1, (.slice A0_2 l0_2.length c0_2)] 61 (0, 0))) ∧ Aside0 (Below w.heap.size w w'))
        case atStart => exact ⟨(y342), (0), (0), (by first | rfl | (simp; done) | (simp [*]; done)), (by first | rfl | (simp; done) | (simp [*]; done)), H', ⟨Nat.le_refl _⟩, ⟨by (with_reducible repeat (first | apply Kd.R_alloc | apply Kd.R_drewN | apply Kd.R_drew)); exact HO344.out⟩, ⟨by (with_reducible repeat (first | refine blk_drewN ?_ _ | refine blk_drew ?_ | refine blk_alloc ?_ _)); exact BK340.out⟩, ⟨by repeat (first | (with_reducible first | exact HB.out | apply below_alloc | apply pw_below_drewN | apply below_drew1 | refine below_set ?_ GE340.out) | exact HB.out)⟩⟩
        case round =>
          clear H'
          try clear c1
          try clear p2
          try clear c4
          try clear c5
          try clear c5b0
          try clear c5b1
          try clear c6
          try clear c6b0
          try clear c6b1
          try clear hcz8_0
          try clear hcz8_1
          try clear hcz8_2
          try clear hfz8_0
          try clear hfz8_1
          try clear hfz8_2
          obtain ⟨x6_1, x7_1, x23_1, rfl, rfl, HA, HK1, HO_6, BK340, HB⟩ := hrel
          cases gk with
          | zero => exact absurd HA.out (by simp [spec_IslandsOf.l0])
          | succ k1 =>
            have H := HA.out
            clear HA
            simp only [spec_IslandsOf.l0] at H
            by_cases c12 : x23_1 < (l1.length : Int)
            · rw [if_pos c12] at H
              have c12b0 : decide (x23_1 < (l1.length : Int)) = true := decide_eq_true c12
              clear c12
              by_cases c13 : 0 ≤ x23_1
              · rw [if_pos c13] at H
                have c13b0 : decide (0 ≤ x23_1) = true := decide_eq_true c13
                clear c13
                by_cases c14 : x23_1 < (l1.length : Int)
                · rw [if_pos c14] at H
                  have c14b0 : decide (x23_1 < (l1.length : Int)) = true := decide_eq_true c14
                  clear c14
                  have HC15 := Aside0.mk H
                  clear H
                  have p345 : 0 ≤ (x23_1 : Int) := of_decide_eq_true (by first | (with_reducible assumption) | assumption)
                  have q345 : x23_1 < (l1.length : Int) := of_decide_eq_true (by first | (with_reducible assumption) | assumption)
                  obtain ⟨ad345, e345, hx345_0⟩ := Kd.at_bool HR1.out x23_1 p345 q345
                  cases e345
                  replace hx345_0 := (HB.out.cell (World.block_lt_of_cell? w _ hx345_0)).trans hx345_0
                  replace p345 := eq_true p345
                  replace q345 := eq_true q345
                  go_upto_region 8 with (fail)
                  go_cut [35] (fun v35 wc => ∃ (kq : Nat) (x35_14 : Bool), v35 = .bool x35_14 ∧ Aside0 (spec_IslandsOf.j1 kq l1 x6_1 x7_1 x23_1 l1 (l1.length : Int) x23_1 x35_14 a0_0 a0_1 l0_2 = some (r1, r2)) ∧ Aside0 (kq ≤ k1) ∧ Aside0 (Kd.R Kd.bool 4 wc w.heap.size (fun _ => True) v343 x6_1) ∧ Aside0 (wc.heap[gb340]? = some (.cells #[.int .i64 a0_0, .int .i64 a0_1, (.slice A0_2 l0_2.length c0_2)] 61 (0, 0))) ∧ Aside0 (Below w.heap.size w wc))
                  case first =>
                    have H := HC15.out
                    clear HC15
                    obtain ⟨bq16, hbq16⟩ : ∃ b_ : Bool, b_ = (rdOf false l1 x23_1) := ⟨_, rfl⟩
                    replace H : (if bq16 = true then (if x23_1 < (x6_1.length : Int) then (spec_IslandsOf.j1 k1 l1 x6_1 x7_1 x23_1 l1 (l1.length : Int) x23_1 (rdOf false x6_1 x23_1) a0_0 a0_1 l0_2) else (none)) else (spec_IslandsOf.j1 k1 l1 x6_1 x7_1 x23_1 l1 (l1.length : Int) x23_1 true a0_0 a0_1 l0_2)) = some (r1, r2) := by rw [← hbq16] at H; exact H
                    have Nbq16 := Aside0.mk hbq16
                    clear hbq16
                    (try rw [← Nbq16.out])
                    by_cases c17 : bq16 = true
                    · subst c17
                      have H1 : (if x23_1 < (x6_1.length : Int) then (spec_IslandsOf.j1 k1 l1 x6_1 x7_1 x23_1 l1 (l1.length : Int) x23_1 (rdOf false x6_1 x23_1) a0_0 a0_1 l0_2) else (none)) = some (r1, r2) := by rw [if_pos rfl] at H; exact H
                      clear H
                      have H := H1
                      clear H1
                      by_cases c18 : x23_1 < (x6_1.length : Int)
                      · rw [if_pos c18] at H
                        have c18b0 : decide (x23_1 < (x6_1.length : Int)) = true := decide_eq_true c18
                        clear c18
                        have H' := Aside0.mk H
                        clear H
                        obtain ⟨Ao19, co19, eo19⟩ := Kd.R_slice HO_6.out
                        subst eo19
                        have p346 : 0 ≤ (x23_1 : Int) := of_decide_eq_true (by first | (with_reducible assumption) | assumption)
                        have q346 : x23_1 < (x6_1.length : Int) := of_decide_eq_true (by first | (with_reducible assumption) | assumption)
                        obtain ⟨ad346, e346, hx346_0⟩ := Kd.at_bool (Kd.R_reads' HO_6.out).2.2 x23_1 p346 q346
                        (try rw [← Nbq16.out] at hx346_0)
                        cases e346
                        replace p346 := eq_true p346
                        replace q346 := eq_true q346
                        go_wp2
                        (refine Met.intro ?_)
                        go_step
                        (try rw [← Nbq16.out])
                        (repeat apply Exists.intro)
                        refine ⟨?rel, rfl⟩
                        case rel => exact ⟨_, (rdOf false x6_1 x23_1), (by first | rfl | (simp; done) | (simp [*]; done)), H', ⟨by have := HK1.out; first | omega | exact Nat.le_refl _⟩, ⟨by (with_reducible repeat (first | apply Kd.R_alloc | apply Kd.R_drewN | apply Kd.R_drew)); exact HO_6.out⟩, ⟨by (with_reducible repeat (first | refine blk_drewN ?_ _ | refine blk_drew ?_ | refine blk_alloc ?_ _)); exact BK340.out⟩, ⟨by repeat (first | (with_reducible first | exact HB.out | apply below_alloc | apply pw_below_drewN | apply below_drew1 | refine below_set ?_ GE340.out) | exact HB.out)⟩⟩
                      · rw [if_neg c18] at H
                        exact absurd H (by simp)
                    · replace c17 := Bool.eq_false_iff.mpr c17
                      subst c17
                      have H1 : (spec_IslandsOf.j1 k1 l1 x6_1 x7_1 x23_1 l1 (l1.length : Int) x23_1 true a0_0 a0_1 l0_2) = some (r1, r2) := by rw [if_neg (show ¬ (false = true) by decide)] at H; exact H
                      clear H
                      have H := H1
                      clear H1
                      have H' := Aside0.mk H
                      clear H
                      go_wp2
                      (refine Met.intro ?_)
                      go_step
                      (try rw [← Nbq16.out])
                      (repeat apply Exists.intro)
                      refine ⟨?rel, rfl⟩
                      case rel => exact ⟨_, (true), (by first | rfl | (simp; done) | (simp [*]; done)), H', ⟨by have := HK1.out; first | omega | exact Nat.le_refl _⟩, ⟨by (with_reducible repeat (first | apply Kd.R_alloc | apply Kd.R_drewN | apply Kd.R_drew)); exact HO_6.out⟩, ⟨by (with_reducible repeat (first | refine blk_drewN ?_ _ | refine blk_drew ?_ | refine blk_alloc ?_ _)); exact BK340.out⟩, ⟨by repeat (first | (with_reducible first | exact HB.out | apply below_alloc | apply pw_below_drewN | apply below_drew1 | refine below_set ?_ GE340.out) | exact HB.out)⟩⟩
                  case rest =>
                    clear HC15
                    try clear c1
                    try clear q1
                    try clear p2
                    try clear p3
                    try clear q3
                    try clear hx3
                    try clear c4
                    try clear c5
                    try clear c5b0
                    try clear c5b1
                    try clear c6
                    try clear c6b0
                    try clear c6b1
                    try clear c12
                    try clear c12b0
                    try clear c13
                    try clear c13b0
                    try clear c14
                    try clear c14b0
                    try clear c16
                    try clear q16
                    try clear c17
                    try clear c18
                    try clear c18b0
                    try clear hcz8_0
                    try clear hcz8_1
                    try clear hcz8_2
                    try clear hfz8_0
                    try clear hfz8_1
                    try clear hfz8_2
                    try clear hx345_0
                    try clear hx346_0
                    try clear p2
                    try clear p345
                    try clear p346
                    try clear q345
                    try clear q346
                    obtain ⟨kq, x35_14, rfl, HA, HJ14, HO_6, BK340, HB⟩ := hcut
                    cases kq with
                    | zero => exact absurd HA.out (by simp [spec_IslandsOf.j1])
                    | succ kj14 =>
                      have H := HA.out
                      clear HA
                      simp only [spec_IslandsOf.j1] at H
                      by_cases c20 : x35_14 = true
                      · subst c20
                        have H1 : (spec_IslandsOf.l0 kj14 l1 x6_1 x7_1 l1 (l1.length : Int) (wrap64 (x23_1 + 1)) a0_0 a0_1 l0_2) = some (r1, r2) := by rw [if_pos rfl] at H; exact H
                        clear H
                        have H := H1
                        clear H1
                        have H' := Aside0.mk H
                        clear H
                        go_wp2
                        go_roundg kj14
                        case measure => have := HK1.out; have := HJ14.out; omega
                        case rel => exact ⟨(x6_1), (x7_1), (wrap64 (x23_1 + 1)), (by first | rfl | (simp; done) | (simp [*]; done)), (by first | rfl | (simp; done) | (simp [*]; done)), H', ⟨by have := HK1.out; have := HJ14.out; omega⟩, ⟨by (with_reducible repeat (first | apply Kd.R_alloc | apply Kd.R_drewN | apply Kd.R_drew)); exact HO_6.out⟩, ⟨by (with_reducible repeat (first | refine blk_drewN ?_ _ | refine blk_drew ?_ | refine blk_alloc ?_ _)); exact BK340.out⟩, ⟨by repeat (first | (with_reducible first | exact HB.out | apply below_alloc | apply pw_below_drewN | apply below_drew1 | refine below_set ?_ GE340.out) | exact HB.out)⟩⟩
                      · replace c20 := Bool.eq_false_iff.mpr c20
                        subst c20
                        have H1 : (if 0 ≤ x23_1 then (if x23_1 < (x6_1.length : Int) then (spec_IslandsOf.l1 kj14 l1 (x6_1.set (x23_1 : Int).toNat true) (wrap64 (x7_1 + 1)) (([x23_1] : List Int)) 0 l1 (l1.length : Int) x23_1 a0_0 a0_1 l0_2) else (none)) else (none)) = some (r1, r2) := by rw [if_neg (show ¬ (false = true) by decide)] at H; exact H
                        clear H
                        have H := H1
                        clear H1
                        by_cases c21 : 0 ≤ x23_1
                        · rw [if_pos c21] at H
                          have c21b0 : decide (0 ≤ x23_1) = true := decide_eq_true c21
                          clear c21
                          by_cases c22 : x23_1 < (x6_1.length : Int)
                          · rw [if_pos c22] at H
                            have c22b0 : decide (x23_1 < (x6_1.length : Int)) = true := decide_eq_true c22
                            clear c22
                            obtain ⟨y347, hy347⟩ : ∃ y_ : List Bool, y_ = (x6_1.set (x23_1 : Int).toNat true) := ⟨_, rfl⟩
                            replace H : (spec_IslandsOf.l1 kj14 l1 y347 (wrap64 (x7_1 + 1)) (([x23_1] : List Int)) 0 l1 (l1.length : Int) x23_1 a0_0 a0_1 l0_2) = some (r1, r2) := by first | (rw [hy347]; with_reducible exact H) | (have H2_ := (Option.bind_some _ _).symm.trans H; rw [hy347]; with_reducible exact H2_) | (have H2_ := (Option.bind_some _ _).symm.trans H; with_reducible exact H2_) | with_reducible exact H | (rw [hy347]; exact H) | exact H
                            have Ny347 := Aside0.mk hy347
                            clear hy347
                            obtain ⟨y348, hy348⟩ : ∃ y_ : List Int, y_ = (([x23_1] : List Int)) := ⟨_, rfl⟩
                            replace H : (spec_IslandsOf.l1 kj14 l1 y347 (wrap64 (x7_1 + 1)) y348 0 l1 (l1.length : Int) x23_1 a0_0 a0_1 l0_2) = some (r1, r2) := by first | (rw [hy348]; with_reducible exact H) | (have H2_ := (Option.bind_some _ _).symm.trans H; rw [hy348]; with_reducible exact H2_) | (have H2_ := (Option.bind_some _ _).symm.trans H; with_reducible exact H2_) | with_reducible exact H | (rw [hy348]; exact H) | exact H
                            have Ny348 := Aside0.mk hy348
                            clear hy348
                            have H' := Aside0.mk H
                            clear H
                            have p23 : 0 ≤ (x23_1 : Int) := of_decide_eq_true (by first | (with_reducible assumption) | assumption)
                            have q23 : (x23_1 : Int) < ((x6_1.length : Int) : Int) := of_decide_eq_true (by first | (with_reducible assumption) | assumption)
                            obtain ⟨go23, co23, eo23, gb23, gl23, cl23, HG23⟩ := Kd.R_form HO_6.out (by omega)
                            (first | cases eo23 | (injection eo23 with ea_ en_ ec_; (first | subst ea_ | (injection ea_ with ea_; subst ea_)); subst ec_; clear en_))
                            have GB23 := Aside0.mk gb23
                            have GG23 := Aside0.mk HG23
                            clear gb23 gl23 HG23
                            obtain ⟨hx23_0, hf23_0⟩ := Kd.R_celln false HO_6.out (x23_1 : Int) p23 q23
                            replace p23 := eq_true p23
                            replace q23 := eq_true q23
                            have HP24 := Kd.R_putg HO_6.out (x23_1 : Int) true
                            go_wp2_with (first | ((with_reducible refine gate_store (t := 4) (p := 40) rfl ?_); refine store_event (t := 4) (p := 40) (v := ?vo_w25) (w1 := (wc.setCell ⟨go23, (x23_1 : Int).toNat, none⟩ (.bool true))) ?hg ?ho ?hn ?hr ?_; (case ho => rfl); (case hg => rfl); (case hn => rfl); (case hr => first | (go_simp; done) | (go_simp; rfl)); intro w25 hw; have hg : wc.grownBy w25 (some go23) := (by rw [hw]; exact HP24.2); have hp_ : Kd.R Kd.bool 4 w25 w.heap.size (fun _ => True) (.slice (some ⟨go23, 0, none⟩) x6_1.length co23) y347 := (by rw [hw, Ny347.out]; exact HP24.1); clear HP24; have n0_ := Aside0.mk (hp_); have n1_ := Aside0.mk (blk_grown (g := gb340) (o := .cells #[.int .i64 a0_0, .int .i64 a0_1, .slice A0_2 l0_2.length c0_2] 61 (0, 0)) (by (with_reducible repeat (first | refine blk_drewN ?_ _ | refine blk_drew ?_ | refine blk_alloc ?_ _)); exact BK340.out) hg (Kd.R_ne HO_6.out BK340.out (by decide))); have n2_ := Aside0.mk ((by rw [hw]; exact below_set (HB.out) GB23.out : Below w.heap.size w w25)); clear HO_6; clear BK340; clear HB; have HO_6 := n0_; have BK340 := n1_; have HB := n2_; clear n0_ n1_ n2_; clear hg hw hp_) | ((with_reducible refine gate_dst (N := 42) rfl ?_); refine Kd.R_lit (Kd.int .i64) _ 3 ?hg (N := 42) ?hd (xs := ([x23_1] : List Int)) (inner := [.int .i64 x23_1]) (ok := fun _ => True) (okp := fun _ => True) ?hr ?hp (fun _ hk => hk) trivial (Below.refl _ _) (Nat.le_refl _) (by simp) ?_; (case hd => rfl); (case hg => rfl); (case hr => first | (go_simp; done) | (go_simp; rfl)); (case hp => exact (Reps.one (show Kd.M (Kd.int .i64) _ _ _ x23_1 [.int .i64 x23_1] from rfl) (Reps.none _ _))); intro v349 w26 ho27 hb hg_ hnew_; clear hg_ hnew_; (first | rw [← Ny348.out] at ho27 | (simp only [Int.reduceToNat] at ho27; rw [← Ny348.out] at ho27)); have n0_ := Aside0.mk (Kd.R_below (by (with_reducible repeat (first | apply Kd.R_alloc | apply Kd.R_drewN | apply Kd.R_drew)); exact HO_6.out) hb); have n1_ := Aside0.mk (Kd.R_lower ho27 (below_size (by repeat (first | (with_reducible first | exact HB.out | apply below_alloc | apply pw_below_drewN | apply below_drew1 | refine below_set ?_ GE340.out) | exact HB.out)))); have n2_ := Aside0.mk (blk_below (g := gb340) (o := .cells #[.int .i64 a0_0, .int .i64 a0_1, .slice A0_2 l0_2.length c0_2] 61 (0, 0)) (by (with_reducible repeat (first | refine blk_drewN ?_ _ | refine blk_drew ?_ | refine blk_alloc ?_ _)); exact BK340.out) hb); have n3_ := Aside0.mk (below_step (by repeat (first | (with_reducible first | exact HB.out | apply below_alloc | apply pw_below_drewN | apply below_drew1 | refine below_set ?_ GE340.out) | exact HB.out)) hb); clear HO_6; clear BK340; clear HB; have HO_6 := n0_; have HO350 := n1_; have BK340 := n2_; have HB := n3_; clear n0_ n1_ n2_ n3_; clear hb ho27))
                            go_loopg [10, 11] kj14 (fun kq v10 v11 w' => ∃ (x6_3 : List Bool) (x10_3 : List Int) (x11_3 : Int), v11 = .int .i64 x11_3 ∧ Aside0 (spec_IslandsOf.l1 kq l1 x6_3 (wrap64 (x7_1 + 1)) x10_3 x11_3 l1 (l1.length : Int) x23_1 a0_0 a0_1 l0_2 = some (r1, r2)) ∧ Aside0 (kq ≤ kj14) ∧ Aside0 (Kd.R Kd.bool 4 w' w.heap.size (fun _ => True) (.slice (some ⟨go23, 0, none⟩) x6_1.length co23) x6_3) ∧ Aside0 (Kd.R (Kd.int .i64) 3 w' w.heap.size (fun _ => True) v10 x10_3) ∧ Aside0 (w'.heap[gb340]? = some (.cells #[.int .i64 a0_0, .int .i64 a0_1, (.slice A0_2 l0_2.length c0_2)] 61 (0, 0))) ∧ Aside0 (Below w.heap.size w w'))
                            case atStart => exact ⟨(y347), (y348), (0), (by first | rfl | (simp; done) | (simp [*]; done)), H', ⟨Nat.le_refl _⟩, ⟨by (with_reducible repeat (first | apply Kd.R_alloc | apply Kd.R_drewN | apply Kd.R_drew)); exact HO_6.out⟩, ⟨by (with_reducible repeat (first | apply Kd.R_alloc | apply Kd.R_drewN | apply Kd.R_drew)); exact HO350.out⟩, ⟨by (with_reducible repeat (first | refine blk_drewN ?_ _ | refine blk_drew ?_ | refine blk_alloc ?_ _)); exact BK340.out⟩, ⟨by repeat (first | (with_reducible first | exact HB.out | apply below_alloc | apply pw_below_drewN | apply below_drew1 | refine below_set ?_ GE340.out) | exact HB.out)⟩⟩
                            case round =>
                              clear H'
                              try clear c1
                              try clear q1
                              try clear c2
                              try clear p2
                              try clear q2
                              try clear hx2
                              try clear hf2
                              try clear p3
                              try clear q3
                              try clear hx3
                              try clear c4
                              try clear c5
                              try clear c5b0
                              try clear c5b1
                              try clear c6
                              try clear c6b0
                              try clear c6b1
                              try clear p6
                              try clear c12
                              try clear c12b0
                              try clear c13
                              try clear c13b0
                              try clear c14
                              try clear c14b0
                              try clear c16
                              try clear q16
                              try clear c17
                              try clear c18
                              try clear c18b0
                              try clear c20
                              try clear c21
                              try clear c21b0
                              try clear c22
                              try clear c22b0
                              try clear p23
                              try clear q23
                              try clear hx23
                              try clear hf23
                              try clear hcz8_0
                              try clear hcz8_1
                              try clear hcz8_2
                              try clear hfz8_0
                              try clear hfz8_1
                              try clear hfz8_2
                              try clear hx23_0
                              try clear hx345_0
                              try clear hx346_0
                              try clear p2
                              try clear p23
                              try clear p3
                              try clear p345
                              try clear p346
                              try clear q1
                              try clear q16
                              try clear q23
                              try clear q3
                              try clear q345
                              try clear q346
                              obtain ⟨x6_3, x10_3, x11_3, rfl, HA, HK3, HO_6, HO_10, BK340, HB⟩ := hrel
                              have hl6_3 := (Kd.R_reads' HO_6.out).1
                              rw [hl6_3] at HO_6
                              (try simp only [hl6_3])
                              (try simp only [hl6_3] at BK340)
                              (try simp only [hl6_3] at HO_10)
                              cases gk with
                              | zero => exact absurd HA.out (by simp [spec_IslandsOf.l1])
                              | succ k3 =>
                                have H := HA.out
                                clear HA
                                simp only [spec_IslandsOf.l1] at H
                                by_cases c28 : x11_3 < (x10_3.length : Int)
                                · rw [if_pos c28] at H
                                  have c28b0 : decide (x11_3 < (x10_3.length : Int)) = true := decide_eq_true c28
                                  clear c28
                                  by_cases c29 : 0 ≤ x11_3
                                  · rw [if_pos c29] at H
                                    have c29b0 : decide (0 ≤ x11_3) = true := decide_eq_true c29
                                    clear c29
                                    replace H := Option.bind_eq_some_iff.mp H
                                    obtain ⟨t352, A300, H⟩ := H
                                    replace H : (spec_IslandsOf.l2 k3 l1 x6_3 (wrap64 (x7_1 + 1)) x10_3 x11_3 l1 (l1.length : Int) x23_1 t352 (t352.length : Int) 0 a0_0 a0_1 l0_2) = some (r1, r2) := H
                                    have A30 := Aside0.mk A300
                                    clear A300
                                    have H' := Aside0.mk H
                                    clear H
                                    obtain ⟨Ao31, co31, eo31⟩ := Kd.R_slice HO_10.out
                                    subst eo31
                                    try go_wp2
                                    have n0_ := Aside0.mk (Kd.R_drew HO_6.out)
                                    have n1_ := Aside0.mk (Kd.R_drew HO_10.out)
                                    have n2_ := Aside0.mk (blk_drew BK340.out)
                                    have n3_ := Aside0.mk (below_drew1 HB.out)
                                    clear HO_6
                                    clear HO_10
                                    clear BK340
                                    clear HB
                                    have HO_6 := n0_
                                    have HO_10 := n1_
                                    have BK340 := n2_
                                    have HB := n3_
                                    clear n0_ n1_ n2_ n3_
                                    have p351 : 0 ≤ (x11_3 : Int) := of_decide_eq_true (by first | (with_reducible assumption) | assumption)
                                    have q351 : x11_3 < (x10_3.length : Int) := of_decide_eq_true (by first | (with_reducible assumption) | assumption)
                                    obtain ⟨ad351, e351, hx351_0⟩ := Kd.at_int (Kd.R_reads' HO_10.out).2.2 x11_3 p351 q351
                                    cases e351
                                    replace p351 := eq_true p351
                                    replace q351 := eq_true q351
                                    refine start_ (n := 8) (S := fun w' => w'.cell? ⟨gb340, 0, none⟩ = some (.int .i64 a0_0) ∧ w'.cell? ⟨gb340, 1, none⟩ = some (.int .i64 a0_1) ∧ w'.cell? ⟨gb340, 2, none⟩ = some (.slice A0_2 l0_2.length c0_2) ∧ w'.cell? (ad351.add (x11_3).toNat) = some (.int .i64 (rd x10_3 x11_3))) (ds := []) #[false, false, false, false, false, false, false, false] (by kernel_rfl) rfl rfl ⟨(blk_cell BK340.out 0).trans rfl, (blk_cell BK340.out 1).trans rfl, (blk_cell BK340.out 2).trans rfl, hx351_0⟩ (fun hHeld => ?_); refine with_tabW spec_IslandsOf.tab15 spec_IslandsOf.bits15 (fun HT_ HW_ => ?_)
                                    generalize wr.drew = w32 at HO_6 HO_10 BK340 HB hx351_0 hHeld ⊢
                                    refine pure_ (i := 1) (N := some 50) (v := ?_) (a' := ?_) #[false, true, false, false, false, false, false, false] rfl rfl (any_of HT_.out (by kernel_rfl)) (fun _ _ _ h => h) (Or.inl ⟨by rfl, ?_⟩) ?_ ?_
                                    rotate_left
                                    · intro w'
                                      go_simp
                                      with_reducible rfl
                                    rotate_left
                                    · simp only [Act.put, List.setIfInBounds_toArray, List.set_cons_zero, List.set_cons_succ, i64_w, i32_w]
                                      rfl
                                    refine pure_ (i := 2) (N := some 51) (v := ?_) (a' := ?_) #[false, true, true, false, false, false, false, false] rfl rfl (any_of HT_.out (by kernel_rfl)) (fun _ _ _ h => h) (Or.inl ⟨by rfl, ?_⟩) ?_ ?_
                                    rotate_left
                                    · intro w'
                                      go_simp
                                      with_reducible rfl
                                    rotate_left
                                    · simp only [Act.put, List.setIfInBounds_toArray, List.set_cons_zero, List.set_cons_succ, i64_w, i32_w]
                                      rfl
                                    refine pure_ (i := 3) (N := some 52) (v := ?_) (a' := ?_) #[false, true, true, true, false, false, false, false] rfl rfl (any_of HT_.out (by kernel_rfl)) (fun _ _ _ h => h) (Or.inl ⟨by rfl, ?_⟩) ?_ ?_
                                    rotate_left
                                    · intro w'
                                      go_simp
                                      with_reducible rfl
                                    rotate_left
                                    · simp only [Act.put, List.setIfInBounds_toArray, List.set_cons_zero, List.set_cons_succ, i64_w, i32_w]
                                      rfl
                                    refine pure_ (i := 7) (N := some 56) (v := ?_) (a' := ?_) #[false, true, true, true, false, false, false, true] rfl rfl (any_of HT_.out (by kernel_rfl)) (fun _ _ _ h => h) (Or.inl ⟨by rfl, ?_⟩) ?_ ?_
                                    rotate_left
                                    · intro w'
                                      go_simp
                                      with_reducible rfl
                                    rotate_left
                                    · simp only [Act.put, List.setIfInBounds_toArray, List.set_cons_zero, List.set_cons_succ, i64_w, i32_w]
                                      rfl
                                    refine take_ (i := 0) (N := some 49) (v := ?_) (a' := ?_) #[true, true, true, true, false, false, false, true] rfl rfl (take_ofW HT_.out HW_.out (by kernel_rfl)) (fun _ _ _ h => h) (Or.inl ⟨by rfl, ?_⟩) hHeld ?_ ?_
                                    rotate_left
                                    · rintro w' ⟨s0, s1, s2, s3⟩
                                      go_simp
                                      with_reducible rfl
                                    rotate_left
                                    · simp only [Act.put, List.setIfInBounds_toArray, List.set_cons_zero, List.set_cons_succ, i64_w, i32_w]
                                      rfl
                                    refine take_ (i := 4) (N := some 53) (v := ?_) (a' := ?_) #[true, true, true, true, true, false, false, true] rfl rfl (take_ofW HT_.out HW_.out (by kernel_rfl)) (fun _ _ _ h => h) (Or.inl ⟨by rfl, ?_⟩) hHeld ?_ ?_
                                    rotate_left
                                    · rintro w' ⟨s0, s1, s2, s3⟩
                                      go_simp
                                      with_reducible rfl
                                    rotate_left
                                    · simp only [Act.put, List.setIfInBounds_toArray, List.set_cons_zero, List.set_cons_succ, i64_w, i32_w]
                                      rfl
                                    refine one_ (i := 5) (N := some 54) #[true, true, true, true, true, true, false, true] rfl rfl (one_of HT_.out (by kernel_rfl)) (by decide) (fun K hK => ?_)
                                    refine goes_ Try.func167 (by kernel_rfl) rfl #[.agg #[.int .i64 a0_0, .int .i64 a0_1, .slice A0_2 l0_2.length c0_2], .int .i64 (rd x10_3 x11_3)] (by rfl) rfl rfl (by (try simp only [List.map_toArray, List.map_cons, List.map_nil]); first | done | rfl | (simp only [List.length_drop, List.length_take]; rfl)) ?_
                                    with_reducible refine (spec_dgSides.calls k3 a0_0 a0_1 _ _ l0_2 (rd x10_3 x11_3) t352 _ ?side1 ?side2 A30.out).mono ?_
                                    (case side1 => repeat (first | exact (Kd.C_below HR0_2.out HB.out) | (with_reducible refine Kd.C_alloc ?_ _) | (with_reducible refine Kd.C_drewN ?_ _) | (with_reducible refine Kd.C_drew ?_)))
                                    (case side2 => exact HC0_2.out)
                                    rintro e w33 ⟨v353, rfl, ho0, hb⟩
                                    have HS3_ := (hb.cell (World.block_lt_of_cell? _ _ (hHeld.2.2.2))).trans (hHeld.2.2.2)
                                    refine ⟨_, rfl, ?_⟩
                                    have n0_ := Aside0.mk (Kd.R_below (by (with_reducible repeat (first | apply Kd.R_alloc | apply Kd.R_drewN | apply Kd.R_drew)); exact HO_6.out) hb)
                                    have n1_ := Aside0.mk (Kd.R_elder' (by (with_reducible repeat (first | apply Kd.R_alloc | apply Kd.R_drewN | apply Kd.R_drew)); exact HO_10.out) (Kd.R_base ho0) hb)
                                    have n2_ := Aside0.mk (Kd.R_lower (Kd.R_new' ho0 (Kd.R_lt (by (with_reducible repeat (first | apply Kd.R_alloc | apply Kd.R_drewN | apply Kd.R_drew)); exact HO_10.out))) (below_size (by repeat (first | (with_reducible first | exact HB.out | apply below_alloc | apply pw_below_drewN | apply below_drew1 | refine below_set ?_ GE340.out) | exact HB.out))))
                                    have n3_ := Aside0.mk (blk_below (g := gb340) (o := .cells #[.int .i64 a0_0, .int .i64 a0_1, .slice A0_2 l0_2.length c0_2] 61 (0, 0)) (by (with_reducible repeat (first | refine blk_drewN ?_ _ | refine blk_drew ?_ | refine blk_alloc ?_ _)); exact BK340.out) hb)
                                    have n4_ := Aside0.mk (below_step (by repeat (first | (with_reducible first | exact HB.out | apply below_alloc | apply pw_below_drewN | apply below_drew1 | refine below_set ?_ GE340.out) | exact HB.out)) hb)
                                    clear HO_6
                                    clear HO_10
                                    clear BK340
                                    clear HB
                                    have HO_6 := n0_
                                    have HO_10 := n1_
                                    have HO354 := n2_
                                    have BK340 := n3_
                                    have HB := n4_
                                    clear n0_ n1_ n2_ n3_ n4_
                                    (try clear hb)
                                    (try clear hb2)
                                    (try clear hk)
                                    (try clear hi)
                                    (try clear ho0)
                                    obtain ⟨Ao34, co34, eo34⟩ := Kd.R_slice HO354.out
                                    (first | subst eo34 | (injection eo34 with f1_ f2_ f3_; have f4_ := f1_.symm; have f5_ := f3_.symm; clear f1_ f2_ f3_; subst f4_; subst f5_))
                                    refine hK.out _ _ ⟨(blk_cell BK340.out 0).trans rfl, (blk_cell BK340.out 1).trans rfl, (blk_cell BK340.out 2).trans rfl, HS3_⟩ (fun hHeld => ?_)
                                    clear hK K
                                    refine norm_ (a' := ?_) ?_ ?_
                                    rotate_left
                                    · show Act.put _ (some 54) _ = _
                                      simp only [Act.put, List.setIfInBounds_toArray, List.set_cons_zero, List.set_cons_succ, i64_w, i32_w]
                                      rfl
                                    refine pure_ (i := 6) (N := some 55) (v := ?_) (a' := ?_) #[true, true, true, true, true, true, true, true] rfl rfl (any_of HT_.out (by kernel_rfl)) (fun _ _ _ h => h) (Or.inl ⟨by rfl, ?_⟩) ?_ ?_
                                    rotate_left
                                    · intro w'
                                      go_simp
                                      with_reducible rfl
                                    rotate_left
                                    · simp only [Act.put, List.setIfInBounds_toArray, List.set_cons_zero, List.set_cons_succ, i64_w, i32_w]
                                      rfl
                                    refine done_ (done_of HT_.out (by kernel_rfl)) ?_
                                    try go_wp2
                                    go_loopg [10, 56] k3 (fun kq v10 v56 w' => ∃ (x6_4 : List Bool) (x10_4 : List Int) (x56_4 : Int), v56 = .int .i64 x56_4 ∧ Aside0 (spec_IslandsOf.l2 kq l1 x6_4 (wrap64 (x7_1 + 1)) x10_4 x11_3 l1 (l1.length : Int) x23_1 t352 (t352.length : Int) x56_4 a0_0 a0_1 l0_2 = some (r1, r2)) ∧ Aside0 (kq ≤ k3) ∧ Aside0 (Kd.R Kd.bool 4 w' w.heap.size (fun _ => True) (.slice (some ⟨go23, 0, none⟩) x6_3.length co23) x6_4) ∧ Aside0 (Kd.R (Kd.int .i64) 3 w' w.heap.size (fun k_ => some k_ ≠ ((.slice Ao34 t352.length co34) : Value).ownBlock) v10 x10_4) ∧ Aside0 (Kd.R (Kd.int .i64) 3 w' w.heap.size (fun k_ => some k_ ≠ (v10 : Value).ownBlock) (.slice Ao34 t352.length co34) t352) ∧ Aside0 (w'.heap[gb340]? = some (.cells #[.int .i64 a0_0, .int .i64 a0_1, (.slice A0_2 l0_2.length c0_2)] 61 (0, 0))) ∧ Aside0 (Below w.heap.size w w'))
                                    case atStart => exact ⟨(x6_3), (x10_3), (0), (by first | rfl | (simp; done) | (simp [*]; done)), H', ⟨Nat.le_refl _⟩, ⟨by (try simp only [hl6_3]); (with_reducible repeat (first | apply Kd.R_alloc | apply Kd.R_drewN | apply Kd.R_drew)); exact HO_6.out⟩, ⟨by (try simp only [hl6_3]); (with_reducible repeat (first | apply Kd.R_alloc | apply Kd.R_drewN | apply Kd.R_drew)); exact Kd.R_mono HO_10.out (fun _ hk => hk.2)⟩, ⟨by (try simp only [hl6_3]); (with_reducible repeat (first | apply Kd.R_alloc | apply Kd.R_drewN | apply Kd.R_drew)); exact Kd.R_mono HO354.out (fun _ hk => hk.2)⟩, ⟨by (try simp only [hl6_3]); (with_reducible repeat (first | refine blk_drewN ?_ _ | refine blk_drew ?_ | refine blk_alloc ?_ _)); exact BK340.out⟩, ⟨by repeat (first | (with_reducible first | exact HB.out | apply below_alloc | apply pw_below_drewN | apply below_drew1 | refine below_set ?_ GE340.out) | exact HB.out)⟩⟩
                                    case round =>
                                      clear H'
                                      try clear c1
                                      try clear q1
                                      try clear c2
                                      try clear p2
                                      try clear q2
                                      try clear hx2
                                      try clear hf2
                                      try clear p3
                                      try clear q3
                                      try clear hx3
                                      try clear c4
                                      try clear c5
                                      try clear c5b0
                                      try clear c5b1
                                      try clear c6
                                      try clear c6b0
                                      try clear c6b1
                                      try clear p6
                                      try clear c12
                                      try clear c12b0
                                      try clear c13
                                      try clear c13b0
                                      try clear c14
                                      try clear c14b0
                                      try clear c16
                                      try clear q16
                                      try clear c17
                                      try clear c18
                                      try clear c18b0
                                      try clear c20
                                      try clear c21
                                      try clear c21b0
                                      try clear c22
                                      try clear c22b0
                                      try clear p23
                                      try clear q23
                                      try clear hx23
                                      try clear hf23
                                      try clear c28
                                      try clear c28b0
                                      try clear c29
                                      try clear c29b0
                                      try clear p34
                                      try clear q34
                                      try clear hx34
                                      try clear hcz8_0
                                      try clear hcz8_1
                                      try clear hcz8_2
                                      try clear hfz8_0
                                      try clear hfz8_1
                                      try clear hfz8_2
                                      try clear hx23_0
                                      try clear hx345_0
                                      try clear hx346_0
                                      try clear hx351_0
                                      try clear p2
                                      try clear p23
                                      try clear p3
                                      try clear p345
                                      try clear p346
                                      try clear p351
                                      try clear p6
                                      try clear q1
                                      try clear q16
                                      try clear q2
                                      try clear q23
                                      try clear q3
                                      try clear q345
                                      try clear q346
                                      try clear q351
                                      obtain ⟨x6_4, x10_4, x56_4, rfl, HA, HK4, HO_6, HO_10, HO_54, BK340, HB⟩ := hrel
                                      have hl6_4 := (Kd.R_reads' HO_6.out).1
                                      rw [hl6_4] at HO_6
                                      (try simp only [hl6_4])
                                      (try simp only [hl6_4] at BK340)
                                      (try simp only [hl6_4] at HO_10)
                                      (try simp only [hl6_4] at HO_54)
                                      cases gk with
                                      | zero => exact absurd HA.out (by simp [spec_IslandsOf.l2])
                                      | succ k4 =>
                                        have H := HA.out
                                        clear HA
                                        simp only [spec_IslandsOf.l2] at H
                                        by_cases c35 : x56_4 < (t352.length : Int)
                                        · rw [if_pos c35] at H
                                          have c35b0 : decide (x56_4 < (t352.length : Int)) = true := decide_eq_true c35
                                          clear c35
                                          by_cases c36 : 0 ≤ x56_4
                                          · rw [if_pos c36] at H
                                            have c36b0 : decide (0 ≤ x56_4) = true := decide_eq_true c36
                                            clear c36
                                            by_cases c37 : x56_4 < (t352.length : Int)
                                            · rw [if_pos c37] at H
                                              have c37b0 : decide (x56_4 < (t352.length : Int)) = true := decide_eq_true c37
                                              clear c37
                                              by_cases c38 : (rd t352 x56_4) ≥ 0
                                              · rw [if_pos c38] at H
                                                have c38b0 : decide (0 ≤ (rd t352 x56_4)) = true := decide_eq_true c38
                                                clear c38
                                                by_cases c39 : 0 ≤ (rd t352 x56_4)
                                                · rw [if_pos c39] at H
                                                  have c39b0 : decide (0 ≤ (rd t352 x56_4)) = true := decide_eq_true c39
                                                  clear c39
                                                  by_cases c40 : (rd t352 x56_4) < (l1.length : Int)
                                                  · rw [if_pos c40] at H
                                                    have c40b0 : decide ((rd t352 x56_4) < (l1.length : Int)) = true := decide_eq_true c40
                                                    clear c40
                                                    obtain ⟨bq41, hbq41⟩ : ∃ b_ : Bool, b_ = (rdOf false l1 (rd t352 x56_4)) := ⟨_, rfl⟩
                                                    replace H : (if bq41 = true then (if (rd t352 x56_4) < (x6_4.length : Int) then (if (rdOf false x6_4 (rd t352 x56_4) = true) then (spec_IslandsOf.l2 k4 l1 x6_4 (wrap64 (x7_1 + 1)) x10_4 x11_3 l1 (l1.length : Int) x23_1 t352 (t352.length : Int) (wrap64 (x56_4 + 1)) a0_0 a0_1 l0_2) else (if x10_4.length < 17592186044416 then (spec_IslandsOf.l2 k4 l1 (x6_4.set ((rd t352 x56_4) : Int).toNat true) (wrap64 (x7_1 + 1)) (x10_4 ++ [rd t352 x56_4]) x11_3 l1 (l1.length : Int) x23_1 t352 (t352.length : Int) (wrap64 (x56_4 + 1)) a0_0 a0_1 l0_2) else (none))) else (none)) else (spec_IslandsOf.l2 k4 l1 x6_4 (wrap64 (x7_1 + 1)) x10_4 x11_3 l1 (l1.length : Int) x23_1 t352 (t352.length : Int) (wrap64 (x56_4 + 1)) a0_0 a0_1 l0_2)) = some (r1, r2) := by rw [← hbq41] at H; exact H
                                                    have Nbq41 := Aside0.mk hbq41
                                                    clear hbq41
                                                    by_cases c42 : bq41 = true
                                                    · subst c42
                                                      have H1 : (if (rd t352 x56_4) < (x6_4.length : Int) then (if (rdOf false x6_4 (rd t352 x56_4) = true) then (spec_IslandsOf.l2 k4 l1 x6_4 (wrap64 (x7_1 + 1)) x10_4 x11_3 l1 (l1.length : Int) x23_1 t352 (t352.length : Int) (wrap64 (x56_4 + 1)) a0_0 a0_1 l0_2) else (if x10_4.length < 17592186044416 then (spec_IslandsOf.l2 k4 l1 (x6_4.set ((rd t352 x56_4) : Int).toNat true) (wrap64 (x7_1 + 1)) (x10_4 ++ [rd t352 x56_4]) x11_3 l1 (l1.length : Int) x23_1 t352 (t352.length : Int) (wrap64 (x56_4 + 1)) a0_0 a0_1 l0_2) else (none))) else (none)) = some (r1, r2) := by rw [if_pos rfl] at H; exact H
                                                      clear H
                                                      have H := H1
                                                      clear H1
                                                      by_cases c43 : (rd t352 x56_4) < (x6_4.length : Int)
                                                      · rw [if_pos c43] at H
                                                        have c43b0 : decide ((rd t352 x56_4) < (x6_4.length : Int)) = true := decide_eq_true c43
                                                        clear c43
                                                        obtain ⟨bq44, hbq44⟩ : ∃ b_ : Bool, b_ = (rdOf false x6_4 (rd t352 x56_4)) := ⟨_, rfl⟩
                                                        replace H : (if (bq44 = true) then (spec_IslandsOf.l2 k4 l1 x6_4 (wrap64 (x7_1 + 1)) x10_4 x11_3 l1 (l1.length : Int) x23_1 t352 (t352.length : Int) (wrap64 (x56_4 + 1)) a0_0 a0_1 l0_2) else (if x10_4.length < 17592186044416 then (spec_IslandsOf.l2 k4 l1 (x6_4.set ((rd t352 x56_4) : Int).toNat true) (wrap64 (x7_1 + 1)) (x10_4 ++ [rd t352 x56_4]) x11_3 l1 (l1.length : Int) x23_1 t352 (t352.length : Int) (wrap64 (x56_4 + 1)) a0_0 a0_1 l0_2) else (none))) = some (r1, r2) := by rw [← hbq44] at H; exact H
                                                        have Nbq44 := Aside0.mk hbq44
                                                        clear hbq44
                                                        by_cases c45 : (bq44 = true)
                                                        · subst c45
                                                          have H1 : (spec_IslandsOf.l2 k4 l1 x6_4 (wrap64 (x7_1 + 1)) x10_4 x11_3 l1 (l1.length : Int) x23_1 t352 (t352.length : Int) (wrap64 (x56_4 + 1)) a0_0 a0_1 l0_2) = some (r1, r2) := by rw [if_pos rfl] at H; exact H
                                                          clear H
                                                          have H := H1
                                                          clear H1
                                                          have H' := Aside0.mk H
                                                          clear H
                                                          have p355 : 0 ≤ (x56_4 : Int) := of_decide_eq_true (by first | (with_reducible assumption) | assumption)
                                                          have q355 : x56_4 < (t352.length : Int) := of_decide_eq_true (by first | (with_reducible assumption) | assumption)
                                                          obtain ⟨ad355, e355, hx355_0⟩ := Kd.at_int (Kd.R_reads' HO_54.out).2.2 x56_4 p355 q355
                                                          cases e355
                                                          replace p355 := eq_true p355
                                                          replace q355 := eq_true q355
                                                          have p356 : 0 ≤ ((rd t352 x56_4) : Int) := of_decide_eq_true (by first | (with_reducible assumption) | assumption)
                                                          have q356 : (rd t352 x56_4) < (l1.length : Int) := of_decide_eq_true (by first | (with_reducible assumption) | assumption)
                                                          obtain ⟨ad356, e356, hx356_0⟩ := Kd.at_bool HR1.out (rd t352 x56_4) p356 q356
                                                          (try rw [← Nbq41.out] at hx356_0)
                                                          (try rw [← Nbq44.out] at hx356_0)
                                                          obtain rfl : ad345 = ad356 := (by injection e356)
                                                          replace hx356_0 := (HB.out.cell (World.block_lt_of_cell? w _ hx356_0)).trans hx356_0
                                                          replace p356 := eq_true p356
                                                          replace q356 := eq_true q356
                                                          have p357 : 0 ≤ ((rd t352 x56_4) : Int) := of_decide_eq_true (by first | (with_reducible assumption) | assumption)
                                                          have q357 : (rd t352 x56_4) < (x6_4.length : Int) := of_decide_eq_true (by first | (with_reducible assumption) | assumption)
                                                          obtain ⟨ad357, e357, hx357_0⟩ := Kd.at_bool (Kd.R_reads' HO_6.out).2.2 (rd t352 x56_4) p357 q357
                                                          (try rw [← Nbq41.out] at hx357_0)
                                                          (try rw [← Nbq44.out] at hx357_0)
                                                          obtain rfl : (⟨go23, 0, none⟩ : Addr) = ad357 := (by injection e357)
                                                          (first | simp only [add_plain] at hx357_0 | simp only [add_at] at hx357_0 | simp only [Addr.add, Nat.zero_add] at hx357_0 | skip)
                                                          replace p357 := eq_true p357
                                                          replace q357 := eq_true q357
                                                          go_wp2
                                                          (try simp only [← hl6_4])
                                                          (refine Handed.intro k4 ?measure ?_)
                                                          rotate_left
                                                          go_step
                                                          (try rw [← Nbq41.out])
                                                          (try rw [← Nbq44.out])
                                                          (repeat apply Exists.intro)
                                                          refine ⟨?rel, rfl⟩
                                                          case measure => have := HK1.out; have := HJ14.out; have := HK3.out; have := HK4.out; omega
                                                          case rel => exact ⟨(x6_4), (x10_4), (wrap64 (x56_4 + 1)), (by first | rfl | (simp; done) | (simp [*]; done)), H', ⟨by have := HK1.out; have := HJ14.out; have := HK3.out; have := HK4.out; omega⟩, ⟨by (try simp only [hl6_3]); (try simp only [hl6_4]); (with_reducible repeat (first | apply Kd.R_alloc | apply Kd.R_drewN | apply Kd.R_drew)); exact HO_6.out⟩, ⟨by (try simp only [hl6_3]); (try simp only [hl6_4]); (with_reducible repeat (first | apply Kd.R_alloc | apply Kd.R_drewN | apply Kd.R_drew)); exact HO_10.out⟩, ⟨by (try simp only [hl6_3]); (try simp only [hl6_4]); (with_reducible repeat (first | apply Kd.R_alloc | apply Kd.R_drewN | apply Kd.R_drew)); exact HO_54.out⟩, ⟨by (try simp only [hl6_3]); (try simp only [hl6_4]); (with_reducible repeat (first | refine blk_drewN ?_ _ | refine blk_drew ?_ | refine blk_alloc ?_ _)); exact BK340.out⟩, ⟨by repeat (first | (with_reducible first | exact HB.out | apply below_alloc | apply pw_below_drewN | apply below_drew1 | refine below_set ?_ GE340.out) | exact HB.out)⟩⟩
                                                        · replace c45 := Bool.eq_false_iff.mpr c45
                                                          subst c45
                                                          have H1 : (if x10_4.length < 17592186044416 then (spec_IslandsOf.l2 k4 l1 (x6_4.set ((rd t352 x56_4) : Int).toNat true) (wrap64 (x7_1 + 1)) (x10_4 ++ [rd t352 x56_4]) x11_3 l1 (l1.length : Int) x23_1 t352 (t352.length : Int) (wrap64 (x56_4 + 1)) a0_0 a0_1 l0_2) else (none)) = some (r1, r2) := by rw [if_neg (show ¬ (false = true) by decide)] at H; exact H
                                                          clear H
                                                          have H := H1
                                                          clear H1
                                                          obtain ⟨y358, hy358⟩ : ∃ y_ : List Bool, y_ = (x6_4.set ((rd t352 x56_4) : Int).toNat true) := ⟨_, rfl⟩
                                                          replace H : (if x10_4.length < 17592186044416 then (spec_IslandsOf.l2 k4 l1 y358 (wrap64 (x7_1 + 1)) (x10_4 ++ [rd t352 x56_4]) x11_3 l1 (l1.length : Int) x23_1 t352 (t352.length : Int) (wrap64 (x56_4 + 1)) a0_0 a0_1 l0_2) else (none)) = some (r1, r2) := by first | (rw [hy358]; with_reducible exact H) | (have H2_ := (Option.bind_some _ _).symm.trans H; rw [hy358]; with_reducible exact H2_) | (have H2_ := (Option.bind_some _ _).symm.trans H; with_reducible exact H2_) | with_reducible exact H | (rw [hy358]; exact H) | exact H
                                                          have Ny358 := Aside0.mk hy358
                                                          clear hy358
                                                          by_cases c47 : x10_4.length < 17592186044416
                                                          · rw [if_pos c47] at H
                                                            have LMc47 := Aside0.mk c47
                                                            clear c47
                                                            obtain ⟨y359, hy359⟩ : ∃ y_ : List Int, y_ = (x10_4 ++ [rd t352 x56_4]) := ⟨_, rfl⟩
                                                            replace H : (spec_IslandsOf.l2 k4 l1 y358 (wrap64 (x7_1 + 1)) y359 x11_3 l1 (l1.length : Int) x23_1 t352 (t352.length : Int) (wrap64 (x56_4 + 1)) a0_0 a0_1 l0_2) = some (r1, r2) := by first | (rw [hy359]; with_reducible exact H) | (have H2_ := (Option.bind_some _ _).symm.trans H; rw [hy359]; with_reducible exact H2_) | (have H2_ := (Option.bind_some _ _).symm.trans H; with_reducible exact H2_) | with_reducible exact H | (rw [hy359]; exact H) | exact H
                                                            have Ny359 := Aside0.mk hy359
                                                            clear hy359
                                                            have H' := Aside0.mk H
                                                            clear H
                                                            have p355 : 0 ≤ (x56_4 : Int) := of_decide_eq_true (by first | (with_reducible assumption) | assumption)
                                                            have q355 : x56_4 < (t352.length : Int) := of_decide_eq_true (by first | (with_reducible assumption) | assumption)
                                                            obtain ⟨ad355, e355, hx355_0⟩ := Kd.at_int (Kd.R_reads' HO_54.out).2.2 x56_4 p355 q355
                                                            cases e355
                                                            replace p355 := eq_true p355
                                                            replace q355 := eq_true q355
                                                            have p356 : 0 ≤ ((rd t352 x56_4) : Int) := of_decide_eq_true (by first | (with_reducible assumption) | assumption)
                                                            have q356 : (rd t352 x56_4) < (l1.length : Int) := of_decide_eq_true (by first | (with_reducible assumption) | assumption)
                                                            obtain ⟨ad356, e356, hx356_0⟩ := Kd.at_bool HR1.out (rd t352 x56_4) p356 q356
                                                            (try rw [← Nbq41.out] at hx356_0)
                                                            (try rw [← Nbq44.out] at hx356_0)
                                                            obtain rfl : ad345 = ad356 := (by injection e356)
                                                            replace hx356_0 := (HB.out.cell (World.block_lt_of_cell? w _ hx356_0)).trans hx356_0
                                                            replace p356 := eq_true p356
                                                            replace q356 := eq_true q356
                                                            have p357 : 0 ≤ ((rd t352 x56_4) : Int) := of_decide_eq_true (by first | (with_reducible assumption) | assumption)
                                                            have q357 : (rd t352 x56_4) < (x6_4.length : Int) := of_decide_eq_true (by first | (with_reducible assumption) | assumption)
                                                            obtain ⟨ad357, e357, hx357_0⟩ := Kd.at_bool (Kd.R_reads' HO_6.out).2.2 (rd t352 x56_4) p357 q357
                                                            (try rw [← Nbq41.out] at hx357_0)
                                                            (try rw [← Nbq44.out] at hx357_0)
                                                            obtain rfl : (⟨go23, 0, none⟩ : Addr) = ad357 := (by injection e357)
                                                            (first | simp only [add_plain] at hx357_0 | simp only [add_at] at hx357_0 | simp only [Addr.add, Nat.zero_add] at hx357_0 | skip)
                                                            replace p357 := eq_true p357
                                                            replace q357 := eq_true q357
                                                            have p46 : 0 ≤ ((rd t352 x56_4) : Int) := of_decide_eq_true (by first | (with_reducible assumption) | assumption)
                                                            have q46 : ((rd t352 x56_4) : Int) < ((x6_4.length : Int) : Int) := of_decide_eq_true (by first | (with_reducible assumption) | assumption)
                                                            obtain ⟨hx46_0, hf46_0⟩ := Kd.R_celln false HO_6.out ((rd t352 x56_4) : Int) p46 q46
                                                            replace p46 := eq_true p46
                                                            replace q46 := eq_true q46
                                                            have HP48 := Kd.R_putg HO_6.out ((rd t352 x56_4) : Int) true
                                                            go_wp2_with (first | ((with_reducible refine gate_store (t := 4) (p := 77) rfl ?_); refine store_event (t := 4) (p := 77) (v := ?vo_w49) (w1 := (wr.setCell ⟨go23, ((rd t352 x56_4) : Int).toNat, none⟩ (.bool true))) ?hg ?ho ?hn ?hr ?_; (case ho => rfl); (case hg => rfl); (case hn => rfl); (case hr => first | (go_simp; done) | (go_simp; rfl)); intro w49 hw; have hg : wr.grownBy w49 (some go23) := (by rw [hw]; exact HP48.2); have hp_ : Kd.R Kd.bool 4 w49 w.heap.size (fun _ => True) (.slice (some ⟨go23, 0, none⟩) x6_4.length co23) y358 := (by rw [hw, Ny358.out]; exact HP48.1); clear HP48; have n0_ := Aside0.mk (hp_); have n1_ := Aside0.mk (Kd.R_over' (v := (.slice (some ⟨go23, 0, none⟩) x6_4.length co23)) (by (with_reducible repeat (first | apply Kd.R_alloc | apply Kd.R_drewN | apply Kd.R_drew)); exact HO_10.out) (Kd.R_typed HO_6.out) (by decide) hg); have n2_ := Aside0.mk (Kd.R_over' (v := (.slice (some ⟨go23, 0, none⟩) x6_4.length co23)) (by (with_reducible repeat (first | apply Kd.R_alloc | apply Kd.R_drewN | apply Kd.R_drew)); exact HO_54.out) (Kd.R_typed HO_6.out) (by decide) hg); have n3_ := Aside0.mk (blk_grown (g := gb340) (o := .cells #[.int .i64 a0_0, .int .i64 a0_1, .slice A0_2 l0_2.length c0_2] 61 (0, 0)) (by (with_reducible repeat (first | refine blk_drewN ?_ _ | refine blk_drew ?_ | refine blk_alloc ?_ _)); exact BK340.out) hg (Kd.R_ne HO_6.out BK340.out (by decide))); have n4_ := Aside0.mk ((by rw [hw]; exact below_set (HB.out) GB23.out : Below w.heap.size w w49)); clear HO_6; clear HO_10; clear HO_54; clear BK340; clear HB; have HO_6 := n0_; have HO_10 := n1_; have HO_54 := n2_; have BK340 := n3_; have HB := n4_; clear n0_ n1_ n2_ n3_ n4_; clear hg hw hp_) | ((with_reducible refine gate_builtin (b := .append) (xs := #[.tmp 78, .tmp 80]) rfl ?_); at_builtin; refine Kd.R_append (Kd.int .i64) (w0 := w) w.heap.size rfl (.tmp 78) (.tmp 80) 25 3 (.int .i64 0) 8 rfl Try.underlying25 info3 rfl (by decide) (by omega) u10 x10_4 (rd t352 x56_4) [.int .i64 (rd t352 x56_4)] (fun k_ => some k_ ≠ (.slice (some ad355) t352.length co34 : Value).ownBlock) (fun _ => False) rfl rfl ?aP (fun _ hk => hk.elim) ?aF ?aO ?aB ?aS ?aL ?_; (case aP => exact rfl); (case aB => exact (by repeat (first | (with_reducible first | exact HB.out | apply below_alloc | apply pw_below_drewN | apply below_drew1 | refine below_set ?_ GE340.out) | exact HB.out))); (case aF => exact (fun k_ hk => Kd.fresh' (Kd.R_lt (by (with_reducible repeat (first | apply Kd.R_alloc | apply Kd.R_drewN | apply Kd.R_drew)); exact HO_54.out)) k_ hk)); (case aO => exact (by (with_reducible repeat (first | apply Kd.R_alloc | apply Kd.R_drewN | apply Kd.R_drew)); exact HO_10.out)); (case aS => exact (below_size (by repeat (first | (with_reducible first | exact HB.out | apply below_alloc | apply pw_below_drewN | apply below_drew1 | refine below_set ?_ GE340.out) | exact HB.out)))); (case aL => have := LMc47.out; omega); intro v360 w50 ho hb hg hat; rw [← Ny359.out] at ho; have n0_ := Aside0.mk (Kd.R_over' (by (with_reducible repeat (first | apply Kd.R_alloc | apply Kd.R_drewN | apply Kd.R_drew)); exact HO_6.out) (Kd.R_typed (by (with_reducible repeat (first | apply Kd.R_alloc | apply Kd.R_drewN | apply Kd.R_drew)); exact HO_10.out)) (by decide) hg); have n1_ := Aside0.mk (Kd.R_after (ok := (fun _ => True)) (by (with_reducible repeat (first | apply Kd.R_alloc | apply Kd.R_drewN | apply Kd.R_drew)); exact Kd.R_mono HO_54.out (fun _ hk => ⟨trivial, hk⟩)) hg hat); have n2_ := Aside0.mk (blk_grown (g := gb340) (o := .cells #[.int .i64 a0_0, .int .i64 a0_1, .slice A0_2 l0_2.length c0_2] 61 (0, 0)) (by (with_reducible repeat (first | refine blk_drewN ?_ _ | refine blk_drew ?_ | refine blk_alloc ?_ _)); exact BK340.out) hg (Kd.R_ne HO_10.out BK340.out (by decide))); have n3_ := Aside0.mk (hb); have n4_ := Aside0.mk (ho); clear HO_6; clear HO_54; clear BK340; clear HB; clear HO_10; have HO_6 := n0_; have HO_54 := n1_; have BK340 := n2_; have HB := n3_; have HO361 := n4_; clear n0_ n1_ n2_ n3_ n4_; clear ho hb hg hat))
                                                            (try simp only [← hl6_4])
                                                            (refine Handed.intro k4 ?measure ?_)
                                                            rotate_left
                                                            go_step
                                                            (try rw [← Nbq41.out])
                                                            (try rw [← Nbq44.out])
                                                            (repeat apply Exists.intro)
                                                            refine ⟨?rel, rfl⟩
                                                            case measure => have := HK1.out; have := HJ14.out; have := HK3.out; have := HK4.out; omega
                                                            case rel => exact ⟨(y358), (y359), (wrap64 (x56_4 + 1)), (by first | rfl | (simp; done) | (simp [*]; done)), H', ⟨by have := HK1.out; have := HJ14.out; have := HK3.out; have := HK4.out; omega⟩, ⟨by (try simp only [hl6_3]); (try simp only [hl6_4]); (with_reducible repeat (first | apply Kd.R_alloc | apply Kd.R_drewN | apply Kd.R_drew)); exact HO_6.out⟩, ⟨by (try simp only [hl6_3]); (try simp only [hl6_4]); (with_reducible repeat (first | apply Kd.R_alloc | apply Kd.R_drewN | apply Kd.R_drew)); exact HO361.out⟩, ⟨by (try simp only [hl6_3]); (try simp only [hl6_4]); (with_reducible repeat (first | apply Kd.R_alloc | apply Kd.R_drewN | apply Kd.R_drew)); exact Kd.R_mono HO_54.out (fun _ hk => hk.2)⟩, ⟨by (try simp only [hl6_3]); (try simp only [hl6_4]); (with_reducible repeat (first | refine blk_drewN ?_ _ | refine blk_drew ?_ | refine blk_alloc ?_ _)); exact BK340.out⟩, ⟨by repeat (first | (with_reducible first | exact HB.out | apply below_alloc | apply pw_below_drewN | apply below_drew1 | refine below_set ?_ GE340.out) | exact HB.out)⟩⟩
                                                          · rw [if_neg c47] at H
                                                            exact absurd H (by simp)
                                                      · rw [if_neg c43] at H
                                                        exact absurd H (by simp)
                                                    · replace c42 := Bool.eq_false_iff.mpr c42
                                                      subst c42
                                                      have H1 : (spec_IslandsOf.l2 k4 l1 x6_4 (wrap64 (x7_1 + 1)) x10_4 x11_3 l1 (l1.length : Int) x23_1 t352 (t352.length : Int) (wrap64 (x56_4 + 1)) a0_0 a0_1 l0_2) = some (r1, r2) := by rw [if_neg (show ¬ (false = true) by decide)] at H; exact H
                                                      clear H
                                                      have H := H1
                                                      clear H1
                                                      have H' := Aside0.mk H
                                                      clear H
                                                      have p355 : 0 ≤ (x56_4 : Int) := of_decide_eq_true (by first | (with_reducible assumption) | assumption)
                                                      have q355 : x56_4 < (t352.length : Int) := of_decide_eq_true (by first | (with_reducible assumption) | assumption)
                                                      obtain ⟨ad355, e355, hx355_0⟩ := Kd.at_int (Kd.R_reads' HO_54.out).2.2 x56_4 p355 q355
                                                      cases e355
                                                      replace p355 := eq_true p355
                                                      replace q355 := eq_true q355
                                                      have p356 : 0 ≤ ((rd t352 x56_4) : Int) := of_decide_eq_true (by first | (with_reducible assumption) | assumption)
                                                      have q356 : (rd t352 x56_4) < (l1.length : Int) := of_decide_eq_true (by first | (with_reducible assumption) | assumption)
                                                      obtain ⟨ad356, e356, hx356_0⟩ := Kd.at_bool HR1.out (rd t352 x56_4) p356 q356
                                                      (try rw [← Nbq41.out] at hx356_0)
                                                      obtain rfl : ad345 = ad356 := (by injection e356)
                                                      replace hx356_0 := (HB.out.cell (World.block_lt_of_cell? w _ hx356_0)).trans hx356_0
                                                      replace p356 := eq_true p356
                                                      replace q356 := eq_true q356
                                                      go_wp2
                                                      (try simp only [← hl6_4])
                                                      (refine Handed.intro k4 ?measure ?_)
                                                      rotate_left
                                                      go_step
                                                      (try rw [← Nbq41.out])
                                                      (repeat apply Exists.intro)
                                                      refine ⟨?rel, rfl⟩
                                                      case measure => have := HK1.out; have := HJ14.out; have := HK3.out; have := HK4.out; omega
                                                      case rel => exact ⟨(x6_4), (x10_4), (wrap64 (x56_4 + 1)), (by first | rfl | (simp; done) | (simp [*]; done)), H', ⟨by have := HK1.out; have := HJ14.out; have := HK3.out; have := HK4.out; omega⟩, ⟨by (try simp only [hl6_3]); (try simp only [hl6_4]); (with_reducible repeat (first | apply Kd.R_alloc | apply Kd.R_drewN | apply Kd.R_drew)); exact HO_6.out⟩, ⟨by (try simp only [hl6_3]); (try simp only [hl6_4]); (with_reducible repeat (first | apply Kd.R_alloc | apply Kd.R_drewN | apply Kd.R_drew)); exact HO_10.out⟩, ⟨by (try simp only [hl6_3]); (try simp only [hl6_4]); (with_reducible repeat (first | apply Kd.R_alloc | apply Kd.R_drewN | apply Kd.R_drew)); exact HO_54.out⟩, ⟨by (try simp only [hl6_3]); (try simp only [hl6_4]); (with_reducible repeat (first | refine blk_drewN ?_ _ | refine blk_drew ?_ | refine blk_alloc ?_ _)); exact BK340.out⟩, ⟨by repeat (first | (with_reducible first | exact HB.out | apply below_alloc | apply pw_below_drewN | apply below_drew1 | refine below_set ?_ GE340.out) | exact HB.out)⟩⟩
                                                  · rw [if_neg c40] at H
                                                    exact absurd H (by simp)
                                                · rw [if_neg c39] at H
                                                  exact absurd H (by simp)
                                              · rw [if_neg c38] at H
                                                have c38b0 : decide (0 ≤ (rd t352 x56_4)) = false := decide_eq_false c38
                                                clear c38
                                                have H' := Aside0.mk H
                                                clear H
                                                have p355 : 0 ≤ (x56_4 : Int) := of_decide_eq_true (by first | (with_reducible assumption) | assumption)
                                                have q355 : x56_4 < (t352.length : Int) := of_decide_eq_true (by first | (with_reducible assumption) | assumption)
                                                obtain ⟨ad355, e355, hx355_0⟩ := Kd.at_int (Kd.R_reads' HO_54.out).2.2 x56_4 p355 q355
                                                cases e355
                                                replace p355 := eq_true p355
                                                replace q355 := eq_true q355
                                                go_wp2
                                                (try simp only [← hl6_4])
                                                go_roundg k4
                                                case measure => have := HK1.out; have := HJ14.out; have := HK3.out; have := HK4.out; omega
                                                case rel => exact ⟨(x6_4), (x10_4), (wrap64 (x56_4 + 1)), (by first | rfl | (simp; done) | (simp [*]; done)), H', ⟨by have := HK1.out; have := HJ14.out; have := HK3.out; have := HK4.out; omega⟩, ⟨by (try simp only [hl6_3]); (try simp only [hl6_4]); (with_reducible repeat (first | apply Kd.R_alloc | apply Kd.R_drewN | apply Kd.R_drew)); exact HO_6.out⟩, ⟨by (try simp only [hl6_3]); (try simp only [hl6_4]); (with_reducible repeat (first | apply Kd.R_alloc | apply Kd.R_drewN | apply Kd.R_drew)); exact HO_10.out⟩, ⟨by (try simp only [hl6_3]); (try simp only [hl6_4]); (with_reducible repeat (first | apply Kd.R_alloc | apply Kd.R_drewN | apply Kd.R_drew)); exact HO_54.out⟩, ⟨by (try simp only [hl6_3]); (try simp only [hl6_4]); (with_reducible repeat (first | refine blk_drewN ?_ _ | refine blk_drew ?_ | refine blk_alloc ?_ _)); exact BK340.out⟩, ⟨by repeat (first | (with_reducible first | exact HB.out | apply below_alloc | apply pw_below_drewN | apply below_drew1 | refine below_set ?_ GE340.out) | exact HB.out)⟩⟩
                                            · rw [if_neg c37] at H
                                              exact absurd H (by simp)
                                          · rw [if_neg c36] at H
                                            exact absurd H (by simp)
                                        · rw [if_neg c35] at H
                                          have c35b0 : decide (x56_4 < (t352.length : Int)) = false := decide_eq_false c35
                                          have c35b9 := c35b0
                                          (try simp only [hl6_3] at c35b9)
                                          (try simp only [hl6_4] at c35b9)
                                          clear c35
                                          have H' := Aside0.mk H
                                          clear H
                                          go_wp2
                                          (try simp only [← hl6_3, ← hl6_4])
                                          go_roundg k4
                                          case measure => have := HK1.out; have := HJ14.out; have := HK3.out; have := HK4.out; omega
                                          case rel => exact ⟨(x6_4), (x10_4), (wrap64 (x11_3 + 1)), (by first | rfl | (simp; done) | (simp [*]; done)), H', ⟨by have := HK1.out; have := HJ14.out; have := HK3.out; have := HK4.out; omega⟩, ⟨by (try simp only [hl6_3]); (try simp only [hl6_4]); (with_reducible repeat (first | apply Kd.R_alloc | apply Kd.R_drewN | apply Kd.R_drew)); exact HO_6.out⟩, ⟨by (try simp only [hl6_3]); (try simp only [hl6_4]); (with_reducible repeat (first | apply Kd.R_alloc | apply Kd.R_drewN | apply Kd.R_drew)); exact Kd.R_mono HO_10.out (fun _ hk => trivial)⟩, ⟨by (try simp only [hl6_3]); (try simp only [hl6_4]); (with_reducible repeat (first | refine blk_drewN ?_ _ | refine blk_drew ?_ | refine blk_alloc ?_ _)); exact BK340.out⟩, ⟨by repeat (first | (with_reducible first | exact HB.out | apply below_alloc | apply pw_below_drewN | apply below_drew1 | refine below_set ?_ GE340.out) | exact HB.out)⟩⟩
                                  · rw [if_neg c29] at H
                                    exact absurd H (by simp)
                                · rw [if_neg c28] at H
                                  have c28b0 : decide (x11_3 < (x10_3.length : Int)) = false := decide_eq_false c28
                                  have c28b9 := c28b0
                                  (try simp only [hl6_3] at c28b9)
                                  clear c28
                                  have H' := Aside0.mk H
                                  clear H
                                  obtain ⟨Ao51, co51, eo51⟩ := Kd.R_slice HO_10.out
                                  subst eo51
                                  go_wp2
                                  (try simp only [← hl6_3])
                                  go_roundg k3
                                  case measure => have := HK1.out; have := HJ14.out; have := HK3.out; omega
                                  case rel => exact ⟨(x6_3), ((wrap64 (x7_1 + 1))), (wrap64 (x23_1 + 1)), (by first | rfl | (simp; done) | (simp [*]; done)), (by first | rfl | (simp; done) | (simp [*]; done)), H', ⟨by have := HK1.out; have := HJ14.out; have := HK3.out; omega⟩, ⟨by (try simp only [hl6_3]); (with_reducible repeat (first | apply Kd.R_alloc | apply Kd.R_drewN | apply Kd.R_drew)); exact HO_6.out⟩, ⟨by (try simp only [hl6_3]); (with_reducible repeat (first | refine blk_drewN ?_ _ | refine blk_drew ?_ | refine blk_alloc ?_ _)); exact BK340.out⟩, ⟨by repeat (first | (with_reducible first | exact HB.out | apply below_alloc | apply pw_below_drewN | apply below_drew1 | refine below_set ?_ GE340.out) | exact HB.out)⟩⟩
                          · rw [if_neg c22] at H
                            exact absurd H (by simp)
                        · rw [if_neg c21] at H
                          exact absurd H (by simp)
                · rw [if_neg c14] at H
                  exact absurd H (by simp)
              · rw [if_neg c13] at H
                exact absurd H (by simp)
            · rw [if_neg c12] at H
              have c12b0 : decide (x23_1 < (l1.length : Int)) = false := decide_eq_false c12
              clear c12
              simp only [Option.some.injEq, Prod.mk.injEq] at H
              obtain ⟨rfl, rfl⟩ := H
              go_wp2
              go_ret2
              exact ⟨by first | rfl | (simp [errW_none, errW_some] <;> rfl) | (simp [*, errW_none, errW_some] <;> rfl), by repeat (first | (with_reducible first | exact HB.out | apply below_alloc | apply pw_below_drewN | apply below_drew1 | refine below_set ?_ GE340.out) | exact HB.out)⟩
      · rw [if_neg c6] at H
        exact absurd H (by simp)
    · rw [if_neg c5] at H
      exact absurd H (by simp)
  · replace c4 := Bool.eq_false_iff.mpr c4
    subst c4
    have H1 : (some (0, false)) = some (r1, r2) := by rw [if_neg (show ¬ (false = true) by decide)] at H; exact H
    clear H
    have H := H1
    clear H1
    simp only [Option.some.injEq, Prod.mk.injEq] at H
    obtain ⟨rfl, rfl⟩ := H
    go_enter Try.func48, Try.ntmps48
    go_wp2_with (first | ((with_reducible refine gate_dst (N := 2) rfl ?_); refine box_event ?hg (N := 2) ?hd (cs := #[.int .i64 a0_0, .int .i64 a0_1, .slice A0_2 l0_2.length c0_2]) (t := 61) ?hr ?_; (case hd => rfl); (case hg => rfl); (case hr => first | (go_simp; done) | (go_simp; rfl)); intro gb340 hg w52 hbox hb; have n0_ := Aside0.mk (below_step (by repeat (first | (with_reducible first | exact HB.out | apply below_alloc | apply pw_below_drewN | apply below_drew1) | exact HB.out)) hb); have n1_ := Aside0.mk (hbox); have n2_ := Aside0.mk ((by rw [hg]; exact (below_size (by repeat (first | (with_reducible first | exact HB.out | apply below_alloc | apply pw_below_drewN | apply below_drew1) | exact HB.out))) : w.heap.size ≤ gb340)); have n3_ := Aside0.mk ((by rw [hg]; exact (below_size (by repeat (first | (with_reducible first | exact HB.out | apply below_alloc | apply pw_below_drewN | apply below_drew1) | exact HB.out))) : w.heap.size ≤ gb340)); clear HB; have HB := n0_; have BK340 := n1_; have GW340 := n2_; have GE340 := n3_; clear n0_ n1_ n2_ n3_; clear hb hbox hg; have hcz53_0 : w52.cell? ⟨gb340, 0, none⟩ = some (.int .i64 a0_0) := (blk_cell BK340.out 0).trans rfl; have hcz53_1 : w52.cell? ⟨gb340, 1, none⟩ = some (.int .i64 a0_1) := (blk_cell BK340.out 1).trans rfl; have hcz53_2 : w52.cell? ⟨gb340, 2, none⟩ = some (.slice A0_2 l0_2.length c0_2) := (blk_cell BK340.out 2).trans rfl; have hfz53_0 := blk_frozen BK340.out 0; have hfz53_1 := blk_frozen BK340.out 1; have hfz53_2 := blk_frozen BK340.out 2) | ((with_reducible refine gate_callee (f := 166) rfl ?_); refine goesL_ (some 16) rfl rfl Try.func166 (by kernel_rfl) rfl #[.agg #[.int .i64 a0_0, .int .i64 a0_1, .slice A0_2 l0_2.length c0_2], .slice A1 l1.length c1] rfl (by (try simp only [List.map_toArray, List.map_cons, List.map_nil]); first | done | rfl | (simp only [List.length_drop, List.length_take]; rfl)) ?_; (with_reducible refine (spec_dgBoth.calls k a0_0 a0_1 _ _ l0_2 _ _ l1 false _ ?side1 ?side2 ?side3 ?side4 A3.out).mono ?_); (case side1 => repeat (first | exact (Kd.C_below HR0_2.out HB.out) | (with_reducible refine Kd.C_alloc ?_ _) | (with_reducible refine Kd.C_drewN ?_ _) | (with_reducible refine Kd.C_drew ?_))); (case side2 => exact HC0_2.out); (case side3 => repeat (first | exact (Kd.C_below HR1.out HB.out) | (with_reducible refine Kd.C_alloc ?_ _) | (with_reducible refine Kd.C_drewN ?_ _) | (with_reducible refine Kd.C_drew ?_))); (case side4 => exact HC1.out); rintro e w54 ⟨rfl, hb⟩; refine ⟨_, rfl, ?_⟩; have n0_ := Aside0.mk (blk_below (g := gb340) (o := .cells #[.int .i64 a0_0, .int .i64 a0_1, .slice A0_2 l0_2.length c0_2] 61 (0, 0)) (by (with_reducible repeat (first | refine blk_drewN ?_ _ | refine blk_drew ?_ | refine blk_alloc ?_ _)); exact BK340.out) hb); have n1_ := Aside0.mk (below_step (by repeat (first | (with_reducible first | exact HB.out | apply below_alloc | apply pw_below_drewN | apply below_drew1 | refine below_set ?_ GE340.out) | exact HB.out)) hb); clear BK340; clear HB; have BK340 := n0_; have HB := n1_; clear n0_ n1_; (try clear hb); (try clear hb2); (try clear hk); (try clear hi)))
    go_ret2
    exact ⟨by first | rfl | (simp [errW_none, errW_some] <;> rfl) | (simp [*, errW_none, errW_some] <;> rfl), by repeat (first | (with_reducible first | exact HB.out | apply below_alloc | apply pw_below_drewN | apply below_drew1 | refine below_set ?_ GE340.out) | exact HB.out)⟩

end Go.Proofs.Ytinfalmpncfneaa.PFnShapes
