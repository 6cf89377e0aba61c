/- This text is this session's own: written by a program of its own that goes the same way as print.sh (wip/ownprint.py says what it does otherwise). -/
import Derived.Test.YtinfalmpncfneaaPFnShapesx0
import Derived.Test.YtinfalmpncfneaaPFnShapesx3
import Derived.Test.YtinfalmpncfneaaPFnShapesx4
namespace Go.Proofs.Ytinfalmpncfneaa.PFnShapes
open Go.RowKit Go.Proofs.YtinfalmpncfneaaW.PrintWords Go.Proofs.YtinfalmpncfneaaW.PrintLast Go.Proofs.YtinfalmpncfneaaW.PrintMore
attribute [local go_sem] max2_int min2_int max_two min_two max_three min_three max_four min_four   -- for this text's walks alone
set_option linter.unusedVariables false
set_option linter.unusedSimpArgs false

/-! ### impl_IslandsOf: function 47 -/
mutual
def impl_IslandsOf.l0 : Nat → List Bool → List Bool → Int → Int → Int → Int → Int → List Int → Option (Int × Bool)
  | 0, _, _, _, _, _, _, _, _ => none
  | k + 1, x1, x6, x7, x21, x22, x316000, x316001, x316002 => if x22 < x21 then (if 0 ≤ x22 then (if x22 < (x1.length : Int) then (if rdOf false x1 x22 = true then (if x22 < (x6.length : Int) then (impl_IslandsOf.j1 k x1 x6 x7 x22 x21 x22 (rdOf false x6 x22) x316000 x316001 x316002) else (none)) else (impl_IslandsOf.j1 k x1 x6 x7 x22 x21 x22 true x316000 x316001 x316002)) else (none)) else (none)) else (some (x7, true))
def impl_IslandsOf.j1 : Nat → List Bool → List Bool → Int → Int → Int → Int → Bool → Int → Int → List Int → Option (Int × Bool)
  | 0, _, _, _, _, _, _, _, _, _, _ => none
  | k + 1, x1, x6, x7, x8, x21, x22, x35, x316000, x316001, x316002 => if x35 = true then (impl_IslandsOf.l0 k x1 x6 x7 x21 (wrap64 (x22 + 1)) x316000 x316001 x316002) else (if 0 ≤ x8 then (if x8 < (x6.length : Int) then (impl_IslandsOf.l1 k x1 (x6.set (x8 : Int).toNat true) (wrap64 (x7 + 1)) (([x8] : List Int)) x21 x22 x316000 x316001 x316002) else (none)) else (none))
def impl_IslandsOf.l1 : Nat → List Bool → List Bool → Int → List Int → Int → Int → Int → Int → List Int → Option (Int × Bool)
  | 0, _, _, _, _, _, _, _, _, _ => none
  | k + 1, x1, x6, x7, x9, x21, x22, x316000, x316001, x316002 => if (x9.length : Int) > 0 then (if 0 < (x9.length : Int) then (if 1 ≤ (x9.length : Int) then ((impl_cellsBeside.f k x316000 x316001 x316002 (rd x9 0)).bind fun t330 => (impl_IslandsOf.l2 k x1 x6 x7 (x9.drop (1 : Int).toNat) x21 x22 t330 (t330.length : Int) 0 x316000 x316001 x316002)) else (none)) else (none)) else (impl_IslandsOf.l0 k x1 x6 x7 x21 (wrap64 (x22 + 1)) x316000 x316001 x316002)
def impl_IslandsOf.l2 : Nat → List Bool → List Bool → Int → List Int → Int → Int → List Int → Int → Int → Int → Int → List Int → Option (Int × Bool)
  | 0, _, _, _, _, _, _, _, _, _, _, _, _ => none
  | k + 1, x1, x6, x7, x9, x21, x22, x53, x54, x55, x316000, x316001, x316002 => if x55 < x54 then (if 0 ≤ x55 then (if x55 < (x53.length : Int) then (if 0 ≤ (rd x53 x55) then (if (rd x53 x55) < (x1.length : Int) then (if rdOf false x1 (rd x53 x55) = true then (if (rd x53 x55) < (x6.length : Int) then (if (rdOf false x6 (rd x53 x55) = true) then (impl_IslandsOf.l2 k x1 x6 x7 x9 x21 x22 x53 x54 (wrap64 (x55 + 1)) x316000 x316001 x316002) else (if x9.length < 17592186044416 then (impl_IslandsOf.l2 k x1 (x6.set ((rd x53 x55) : Int).toNat true) x7 (x9 ++ [rd x53 x55]) x21 x22 x53 x54 (wrap64 (x55 + 1)) x316000 x316001 x316002) else (none))) else (none)) else (impl_IslandsOf.l2 k x1 x6 x7 x9 x21 x22 x53 x54 (wrap64 (x55 + 1)) x316000 x316001 x316002)) else (none)) else (none)) else (none)) else (none)) else (impl_IslandsOf.l1 k x1 x6 x7 x9 x21 x22 x316000 x316001 x316002)
end
def impl_IslandsOf.f (k : Nat) (a0_0 : Int) (a0_1 : Int) (l0_2 : List Int) (l1 : List Bool) : Option (Int × Bool) := (impl_isDug.f k a0_0 a0_1 l0_2 l1).bind fun t316 => (if t316 = true then (if 0 ≤ (l1.length : Int) then (if ((l1.length : Int) : Int).toNat ≤ 281474976710656 then (impl_IslandsOf.l0 k l1 (List.replicate ((l1.length : Int) : Int).toNat false) 0 (l1.length : Int) 0 a0_0 a0_1 l0_2) else (none)) else (none)) else (some (0, false)))
theorem impl_IslandsOf.mono_l : ∀ k, (∀ y0 y1 y2 y3 y4 y5 y6 y7, LeO (impl_IslandsOf.l0 k y0 y1 y2 y3 y4 y5 y6 y7) (impl_IslandsOf.l0 (k + 1) y0 y1 y2 y3 y4 y5 y6 y7)) ∧ (∀ y0 y1 y2 y3 y4 y5 y6 y7 y8 y9, LeO (impl_IslandsOf.j1 k y0 y1 y2 y3 y4 y5 y6 y7 y8 y9) (impl_IslandsOf.j1 (k + 1) y0 y1 y2 y3 y4 y5 y6 y7 y8 y9)) ∧ (∀ y0 y1 y2 y3 y4 y5 y6 y7 y8, LeO (impl_IslandsOf.l1 k y0 y1 y2 y3 y4 y5 y6 y7 y8) (impl_IslandsOf.l1 (k + 1) y0 y1 y2 y3 y4 y5 y6 y7 y8)) ∧ (∀ y0 y1 y2 y3 y4 y5 y6 y7 y8 y9 y10 y11, LeO (impl_IslandsOf.l2 k y0 y1 y2 y3 y4 y5 y6 y7 y8 y9 y10 y11) (impl_IslandsOf.l2 (k + 1) y0 y1 y2 y3 y4 y5 y6 y7 y8 y9 y10 y11))
  | 0 => ⟨fun _ _ _ _ _ _ _ _ r h => by simp [impl_IslandsOf.l0] at h, fun _ _ _ _ _ _ _ _ _ _ r h => by simp [impl_IslandsOf.j1] at h, fun _ _ _ _ _ _ _ _ _ r h => by simp [impl_IslandsOf.l1] at h, fun _ _ _ _ _ _ _ _ _ _ _ _ r h => by simp [impl_IslandsOf.l2] at h⟩
  | k + 1 => by
    obtain ⟨ih0, ih1, ih2, ih3⟩ := impl_IslandsOf.mono_l k
    refine ⟨?_, ?_, ?_, ?_⟩
    · intro y0 y1 y2 y3 y4 y5 y6 y7
      unfold impl_IslandsOf.l0
      repeat' first
      | (with_reducible exact ih0 _ _ _ _ _ _ _ _)
      | (with_reducible exact ih1 _ _ _ _ _ _ _ _ _ _)
      | (with_reducible exact ih2 _ _ _ _ _ _ _ _ _)
      | (with_reducible exact ih3 _ _ _ _ _ _ _ _ _ _ _ _)
      | (with_reducible exact impl_cellsBeside.mono _ _ _ _ _)
      | (with_reducible exact impl_isDug.mono _ _ _ _ _)
      | (with_reducible exact LeO.refl _)
      | (with_reducible exact LeO.none _)
      | (with_reducible refine LeO.ite ?_ ?_)
      | (with_reducible refine LeO.bind ?_ (fun _ => ?_))
      | exact ih0 _ _ _ _ _ _ _ _
      | exact ih1 _ _ _ _ _ _ _ _ _ _
      | exact ih2 _ _ _ _ _ _ _ _ _
      | exact ih3 _ _ _ _ _ _ _ _ _ _ _ _
      | exact impl_cellsBeside.mono _ _ _ _ _
      | exact impl_isDug.mono _ _ _ _ _
      | exact LeO.none _
      | refine LeO.ite ?_ ?_
      | refine LeO.bind ?_ (fun _ => ?_)
    · intro y0 y1 y2 y3 y4 y5 y6 y7 y8 y9
      unfold impl_IslandsOf.j1
      repeat' first
      | (with_reducible exact ih0 _ _ _ _ _ _ _ _)
      | (with_reducible exact ih1 _ _ _ _ _ _ _ _ _ _)
      | (with_reducible exact ih2 _ _ _ _ _ _ _ _ _)
      | (with_reducible exact ih3 _ _ _ _ _ _ _ _ _ _ _ _)
      | (with_reducible exact impl_cellsBeside.mono _ _ _ _ _)
      | (with_reducible exact impl_isDug.mono _ _ _ _ _)
      | (with_reducible exact LeO.refl _)
      | (with_reducible exact LeO.none _)
      | (with_reducible refine LeO.ite ?_ ?_)
      | (with_reducible refine LeO.bind ?_ (fun _ => ?_))
      | exact ih0 _ _ _ _ _ _ _ _
      | exact ih1 _ _ _ _ _ _ _ _ _ _
      | exact ih2 _ _ _ _ _ _ _ _ _
      | exact ih3 _ _ _ _ _ _ _ _ _ _ _ _
      | exact impl_cellsBeside.mono _ _ _ _ _
      | exact impl_isDug.mono _ _ _ _ _
      | exact LeO.none _
      | refine LeO.ite ?_ ?_
      | refine LeO.bind ?_ (fun _ => ?_)
    · intro y0 y1 y2 y3 y4 y5 y6 y7 y8
      unfold impl_IslandsOf.l1
      repeat' first
      | (with_reducible exact ih0 _ _ _ _ _ _ _ _)
      | (with_reducible exact ih1 _ _ _ _ _ _ _ _ _ _)
      | (with_reducible exact ih2 _ _ _ _ _ _ _ _ _)
      | (with_reducible exact ih3 _ _ _ _ _ _ _ _ _ _ _ _)
      | (with_reducible exact impl_cellsBeside.mono _ _ _ _ _)
      | (with_reducible exact impl_isDug.mono _ _ _ _ _)
      | (with_reducible exact LeO.refl _)
      | (with_reducible exact LeO.none _)
      | (with_reducible refine LeO.ite ?_ ?_)
      | (with_reducible refine LeO.bind ?_ (fun _ => ?_))
      | exact ih0 _ _ _ _ _ _ _ _
      | exact ih1 _ _ _ _ _ _ _ _ _ _
      | exact ih2 _ _ _ _ _ _ _ _ _
      | exact ih3 _ _ _ _ _ _ _ _ _ _ _ _
      | exact impl_cellsBeside.mono _ _ _ _ _
      | exact impl_isDug.mono _ _ _ _ _
      | exact LeO.none _
      | refine LeO.ite ?_ ?_
      | refine LeO.bind ?_ (fun _ => ?_)
    · intro y0 y1 y2 y3 y4 y5 y6 y7 y8 y9 y10 y11
      unfold impl_IslandsOf.l2
      repeat' first
      | (with_reducible exact ih0 _ _ _ _ _ _ _ _)
      | (with_reducible exact ih1 _ _ _ _ _ _ _ _ _ _)
      | (with_reducible exact ih2 _ _ _ _ _ _ _ _ _)
      | (with_reducible exact ih3 _ _ _ _ _ _ _ _ _ _ _ _)
      | (with_reducible exact impl_cellsBeside.mono _ _ _ _ _)
      | (with_reducible exact impl_isDug.mono _ _ _ _ _)
      | (with_reducible exact LeO.refl _)
      | (with_reducible exact LeO.none _)
      | (with_reducible refine LeO.ite ?_ ?_)
      | (with_reducible refine LeO.bind ?_ (fun _ => ?_))
      | exact ih0 _ _ _ _ _ _ _ _
      | exact ih1 _ _ _ _ _ _ _ _ _ _
      | exact ih2 _ _ _ _ _ _ _ _ _
      | exact ih3 _ _ _ _ _ _ _ _ _ _ _ _
      | exact impl_cellsBeside.mono _ _ _ _ _
      | exact impl_isDug.mono _ _ _ _ _
      | exact LeO.none _
      | refine LeO.ite ?_ ?_
      | refine LeO.bind ?_ (fun _ => ?_)
theorem impl_IslandsOf.mono : ∀ a0 a1 a2 a3 k, LeO (impl_IslandsOf.f k a0 a1 a2 a3) (impl_IslandsOf.f (k + 1) a0 a1 a2 a3) := by
  intro a0 a1 a2 a3 k
  obtain ⟨ih0, ih1, ih2, ih3⟩ := impl_IslandsOf.mono_l k
  unfold impl_IslandsOf.f
  repeat' first
      | (with_reducible exact ih0 _ _ _ _ _ _ _ _)
      | (with_reducible exact ih1 _ _ _ _ _ _ _ _ _ _)
      | (with_reducible exact ih2 _ _ _ _ _ _ _ _ _)
      | (with_reducible exact ih3 _ _ _ _ _ _ _ _ _ _ _ _)
      | (with_reducible exact impl_cellsBeside.mono _ _ _ _ _)
      | (with_reducible exact impl_isDug.mono _ _ _ _ _)
      | (with_reducible exact LeO.refl _)
      | (with_reducible exact LeO.none _)
      | (with_reducible refine LeO.ite ?_ ?_)
      | (with_reducible refine LeO.bind ?_ (fun _ => ?_))
      | exact ih0 _ _ _ _ _ _ _ _
      | exact ih1 _ _ _ _ _ _ _ _ _ _
      | exact ih2 _ _ _ _ _ _ _ _ _
      | exact ih3 _ _ _ _ _ _ _ _ _ _ _ _
      | exact impl_cellsBeside.mono _ _ _ _ _
      | exact impl_isDug.mono _ _ _ _ _
      | exact LeO.none _
      | refine LeO.ite ?_ ?_
      | refine LeO.bind ?_ (fun _ => ?_)
set_option maxHeartbeats 8000000 in
set_option maxRecDepth 100000 in
theorem impl_IslandsOf.calls (k : Nat) (a0_0 : Int) (a0_1 : Int) (A0_2 : Option Addr) (c0_2 : Nat) (l0_2 : List Int) (A1 : Option Addr) (c1 : Nat) (l1 : List Bool) (r1 : Int) (r2 : Bool) (w : World) (hr0_2 : Kd.C (Kd.int .i64) w A0_2 l0_2.length l0_2) (hc0_2 : l0_2.length ≤ c0_2) (hr1 : Kd.C Kd.bool w A1 l1.length l1) (hc1 : l1.length ≤ c1) (h : impl_IslandsOf.f k a0_0 a0_1 l0_2 l1 = some (r1, r2)) :
    Calls Try.prog 47 #[.agg #[.int .i64 a0_0, .int .i64 a0_1, .slice A0_2 l0_2.length c0_2], .slice A1 l1.length c1] w fun e w' => e = .returned (.tuple #[.int .i64 r1, .bool r2]) ∧ Below w.heap.size w w' := by
  have hu61 := Try.underlying61
  have HR0_2 := Aside0.mk hr0_2
  have HC0_2 := Aside0.mk hc0_2
  clear hr0_2 hc0_2
  have HR1 := Aside0.mk hr1
  have HC1 := Aside0.mk hc1
  clear hr1 hc1
  have HB := Aside0.mk (Below.refl w.heap.size w)
  have H : ((impl_isDug.f k a0_0 a0_1 l0_2 l1).bind fun t316 => (if t316 = true then (if 0 ≤ (l1.length : Int) then (if ((l1.length : Int) : Int).toNat ≤ 281474976710656 then (impl_IslandsOf.l0 k l1 (List.replicate ((l1.length : Int) : Int).toNat false) 0 (l1.length : Int) 0 a0_0 a0_1 l0_2) else (none)) else (none)) else (some (0, false)))) = some (r1, r2) := h
  clear h
  replace H := Option.bind_eq_some_iff.mp H
  obtain ⟨t316, A30, H⟩ := H
  replace H : (if t316 = true then (if 0 ≤ (l1.length : Int) then (if ((l1.length : Int) : Int).toNat ≤ 281474976710656 then (impl_IslandsOf.l0 k l1 (List.replicate ((l1.length : Int) : Int).toNat false) 0 (l1.length : Int) 0 a0_0 a0_1 l0_2) else (none)) else (none)) else (some (0, false))) = some (r1, r2) := H
  have A3 := Aside0.mk A30
  clear A30
  by_cases c4 : t316 = true
  · subst c4
    have H1 : (if 0 ≤ (l1.length : Int) then (if ((l1.length : Int) : Int).toNat ≤ 281474976710656 then (impl_IslandsOf.l0 k l1 (List.replicate ((l1.length : Int) : Int).toNat false) 0 (l1.length : Int) 0 a0_0 a0_1 l0_2) else (none)) else (none)) = some (r1, r2) := by rw [if_pos rfl] at H; exact H
    clear H
    have H := H1
    clear H1
    by_cases c5 : 0 ≤ (l1.length : Int)
    · rw [if_pos c5] at H
      have c5b0 := eq_true c5
      have c5b1 : decide (0 ≤ (l1.length : Int)) = true := decide_eq_true c5
      clear c5
      by_cases c6 : ((l1.length : Int) : Int).toNat ≤ 281474976710656
      · rw [if_pos c6] at H
        have c6b0 := eq_true c6
        have c6b1 : decide (((l1.length : Int) : Int).toNat ≤ 281474976710656) = true := decide_eq_true c6
        clear c6
        obtain ⟨y317, hy317⟩ : ∃ y_ : List Bool, y_ = (List.replicate ((l1.length : Int) : Int).toNat false) := ⟨_, rfl⟩
        replace H : (impl_IslandsOf.l0 k l1 y317 0 (l1.length : Int) 0 a0_0 a0_1 l0_2) = some (r1, r2) := by first | (rw [hy317]; with_reducible exact H) | (have H2_ := (Option.bind_some _ _).symm.trans H; rw [hy317]; with_reducible exact H2_) | (have H2_ := (Option.bind_some _ _).symm.trans H; with_reducible exact H2_) | with_reducible exact H | (rw [hy317]; exact H) | exact H
        have Ny317 := Aside0.mk hy317
        clear hy317
        have H' := Aside0.mk H
        clear H
        go_enter Try.func47, Try.ntmps47
        go_wp2_with (first | ((with_reducible refine gate_dst (N := 2) rfl ?_); refine box_event ?hg (N := 2) ?hd (cs := #[.int .i64 a0_0, .int .i64 a0_1, .slice A0_2 l0_2.length c0_2]) (t := 61) ?hr ?_; (case hd => rfl); (case hg => rfl); (case hr => first | (go_simp; done) | (go_simp; rfl)); intro gb315 hg w7 hbox hb; have n0_ := Aside0.mk (below_step (by repeat (first | (with_reducible first | exact HB.out | apply below_alloc | apply pw_below_drewN | apply below_drew1) | exact HB.out)) hb); have n1_ := Aside0.mk (hbox); have n2_ := Aside0.mk ((by rw [hg]; exact (below_size (by repeat (first | (with_reducible first | exact HB.out | apply below_alloc | apply pw_below_drewN | apply below_drew1) | exact HB.out))) : w.heap.size ≤ gb315)); have n3_ := Aside0.mk ((by rw [hg]; exact (below_size (by repeat (first | (with_reducible first | exact HB.out | apply below_alloc | apply pw_below_drewN | apply below_drew1) | exact HB.out))) : w.heap.size ≤ gb315)); clear HB; have HB := n0_; have BK315 := n1_; have GW315 := n2_; have GE315 := n3_; clear n0_ n1_ n2_ n3_; clear hb hbox hg; have hcz8_0 : w7.cell? ⟨gb315, 0, none⟩ = some (.int .i64 a0_0) := (blk_cell BK315.out 0).trans rfl; have hcz8_1 : w7.cell? ⟨gb315, 1, none⟩ = some (.int .i64 a0_1) := (blk_cell BK315.out 1).trans rfl; have hcz8_2 : w7.cell? ⟨gb315, 2, none⟩ = some (.slice A0_2 l0_2.length c0_2) := (blk_cell BK315.out 2).trans rfl; have hfz8_0 := blk_frozen BK315.out 0; have hfz8_1 := blk_frozen BK315.out 1; have hfz8_2 := blk_frozen BK315.out 2) | ((with_reducible refine gate_callee (f := 163) rfl ?_); refine goesL_ (some 15) rfl rfl Try.func163 (by kernel_rfl) rfl #[.agg #[.int .i64 a0_0, .int .i64 a0_1, .slice A0_2 l0_2.length c0_2], .slice A1 l1.length c1] rfl (by (try simp only [List.map_toArray, List.map_cons, List.map_nil]); first | done | rfl | (simp only [List.length_drop, List.length_take]; rfl)) ?_; (with_reducible refine (impl_isDug.calls k a0_0 a0_1 _ _ l0_2 _ _ l1 true _ ?side1 ?side2 ?side3 ?side4 A3.out).mono ?_); (case side1 => repeat (first | exact (Kd.C_below HR0_2.out HB.out) | (with_reducible refine Kd.C_alloc ?_ _) | (with_reducible refine Kd.C_drewN ?_ _) | (with_reducible refine Kd.C_drew ?_))); (case side2 => exact HC0_2.out); (case side3 => repeat (first | exact (Kd.C_below HR1.out HB.out) | (with_reducible refine Kd.C_alloc ?_ _) | (with_reducible refine Kd.C_drewN ?_ _) | (with_reducible refine Kd.C_drew ?_))); (case side4 => exact HC1.out); rintro e w9 ⟨rfl, hb⟩; refine ⟨_, rfl, ?_⟩; have n0_ := Aside0.mk (blk_below (g := gb315) (o := .cells #[.int .i64 a0_0, .int .i64 a0_1, .slice A0_2 l0_2.length c0_2] 61 (0, 0)) (by (with_reducible repeat (first | refine blk_drewN ?_ _ | refine blk_drew ?_ | refine blk_alloc ?_ _)); exact BK315.out) hb); have n1_ := Aside0.mk (below_step (by repeat (first | (with_reducible first | exact HB.out | apply below_alloc | apply pw_below_drewN | apply below_drew1 | refine below_set ?_ GE315.out) | exact HB.out)) hb); clear BK315; clear HB; have BK315 := n0_; have HB := n1_; clear n0_ n1_; (try clear hb); (try clear hb2); (try clear hk); (try clear hi)) | ((with_reducible refine gate_dst (N := 19) rfl ?_); refine Kd.R_make Kd.bool _ 4 rfl (N := 19) rfl 62 _ _ rfl (l1.length : Int) rfl rfl Try.underlying62 (.bool false) 1 info4 rfl (by decide) (by omega) false (ok := fun _ => True) (okp := fun _ => True) rfl (fun _ hk => hk) trivial (of_decide_eq_true (by first | (with_reducible assumption) | assumption)) (Nat.le_trans (Nat.mul_le_mul_right _ (of_decide_eq_true (by first | (with_reducible assumption) | assumption) : (l1.length : Int).toNat ≤ 281474976710656)) (by omega)) (Below.refl _ _) (Nat.le_refl _) ?_; intro v318 w10 ho11 hb hg_ hnew_; clear hg_ hnew_; (first | rw [← Ny317.out] at ho11 | (simp only [Int.reduceToNat] at ho11; rw [← Ny317.out] at ho11)); have n0_ := Aside0.mk (Kd.R_lower ho11 (below_size (by repeat (first | (with_reducible first | exact HB.out | apply below_alloc | apply pw_below_drewN | apply below_drew1 | refine below_set ?_ GE315.out) | exact HB.out)))); have n1_ := Aside0.mk (blk_below (g := gb315) (o := .cells #[.int .i64 a0_0, .int .i64 a0_1, .slice A0_2 l0_2.length c0_2] 61 (0, 0)) (by (with_reducible repeat (first | refine blk_drewN ?_ _ | refine blk_drew ?_ | refine blk_alloc ?_ _)); exact BK315.out) hb); have n2_ := Aside0.mk (below_step (by repeat (first | (with_reducible first | exact HB.out | apply below_alloc | apply pw_below_drewN | apply below_drew1 | refine below_set ?_ GE315.out) | exact HB.out)) hb); clear BK315; clear HB; have HO319 := n0_; have BK315 := n1_; have HB := n2_; clear n0_ n1_ n2_; clear hb ho11))
        go_loopg [7, 22] k (fun kq v7 v22 w' => ∃ (x6_1 : List Bool) (x7_1 : Int) (x22_1 : Int), v7 = .int .i64 x7_1 ∧ v22 = .int .i64 x22_1 ∧ Aside0 (impl_IslandsOf.l0 kq l1 x6_1 x7_1 (l1.length : Int) x22_1 a0_0 a0_1 l0_2 = some (r1, r2)) ∧ Aside0 (kq ≤ k) ∧ Aside0 (Kd.R Kd.bool 4 w' w.heap.size (fun _ => True) v318 x6_1) ∧ Aside0 (w'.heap[gb315]? = some (.cells #[.int .i64 a0_0, .int .i64 a0_1, (.slice A0_2 l0_2.length c0_2)] 61 (0, 0))) ∧ Aside0 (Below w.heap.size w w'))
        case atStart => exact ⟨(y317), (0), (0), (by first | rfl | (simp; done) | (simp [*]; done)), (by first | rfl | (simp; done) | (simp [*]; done)), H', ⟨Nat.le_refl _⟩, ⟨by (with_reducible repeat (first | apply Kd.R_alloc | apply Kd.R_drewN | apply Kd.R_drew)); exact HO319.out⟩, ⟨by (with_reducible repeat (first | refine blk_drewN ?_ _ | refine blk_drew ?_ | refine blk_alloc ?_ _)); exact BK315.out⟩, ⟨by repeat (first | (with_reducible first | exact HB.out | apply below_alloc | apply pw_below_drewN | apply below_drew1 | refine below_set ?_ GE315.out) | exact HB.out)⟩⟩
        case round =>
          clear H'
          try clear c1
          try clear p2
          try clear c4
          try clear c5
          try clear c5b0
          try clear c5b1
          try clear c6
          try clear c6b0
          try clear c6b1
          try clear hcz8_0
          try clear hcz8_1
          try clear hcz8_2
          try clear hfz8_0
          try clear hfz8_1
          try clear hfz8_2
          obtain ⟨x6_1, x7_1, x22_1, rfl, rfl, HA, HK1, HO_6, BK315, HB⟩ := hrel
          cases gk with
          | zero => exact absurd HA.out (by simp [impl_IslandsOf.l0])
          | succ k1 =>
            have H := HA.out
            clear HA
            simp only [impl_IslandsOf.l0] at H
            by_cases c12 : x22_1 < (l1.length : Int)
            · rw [if_pos c12] at H
              have c12b0 : decide (x22_1 < (l1.length : Int)) = true := decide_eq_true c12
              clear c12
              have HC13 := Aside0.mk H
              clear H
              go_upto_region 8 with (fail)
              go_cut [35] (fun v35 wc => ∃ (kq : Nat) (x35_12 : Bool), v35 = .bool x35_12 ∧ Aside0 (impl_IslandsOf.j1 kq l1 x6_1 x7_1 x22_1 (l1.length : Int) x22_1 x35_12 a0_0 a0_1 l0_2 = some (r1, r2)) ∧ Aside0 (kq ≤ k1) ∧ Aside0 (Kd.R Kd.bool 4 wc w.heap.size (fun _ => True) v318 x6_1) ∧ Aside0 (wc.heap[gb315]? = some (.cells #[.int .i64 a0_0, .int .i64 a0_1, (.slice A0_2 l0_2.length c0_2)] 61 (0, 0))) ∧ Aside0 (Below w.heap.size w wc))
              case first =>
                have H := HC13.out
                clear HC13
                by_cases c14 : 0 ≤ x22_1
                · rw [if_pos c14] at H
                  have c14b0 : decide (0 ≤ x22_1) = true := decide_eq_true c14
                  clear c14
                  (first | rw [c14b0] | (simp only [i64_w, i32_w]; rw [c14b0]) | skip)
                  by_cases c15 : x22_1 < (l1.length : Int)
                  · rw [if_pos c15] at H
                    have c15b0 : decide (x22_1 < (l1.length : Int)) = true := decide_eq_true c15
                    clear c15
                    obtain ⟨bq16, hbq16⟩ : ∃ b_ : Bool, b_ = (rdOf false l1 x22_1) := ⟨_, rfl⟩
                    replace H : (if bq16 = true then (if x22_1 < (x6_1.length : Int) then (impl_IslandsOf.j1 k1 l1 x6_1 x7_1 x22_1 (l1.length : Int) x22_1 (rdOf false x6_1 x22_1) a0_0 a0_1 l0_2) else (none)) else (impl_IslandsOf.j1 k1 l1 x6_1 x7_1 x22_1 (l1.length : Int) x22_1 true a0_0 a0_1 l0_2)) = some (r1, r2) := by rw [← hbq16] at H; exact H
                    have Nbq16 := Aside0.mk hbq16
                    clear hbq16
                    by_cases c17 : bq16 = true
                    · subst c17
                      have H1 : (if x22_1 < (x6_1.length : Int) then (impl_IslandsOf.j1 k1 l1 x6_1 x7_1 x22_1 (l1.length : Int) x22_1 (rdOf false x6_1 x22_1) a0_0 a0_1 l0_2) else (none)) = some (r1, r2) := by rw [if_pos rfl] at H; exact H
                      clear H
                      have H := H1
                      clear H1
                      by_cases c18 : x22_1 < (x6_1.length : Int)
                      · rw [if_pos c18] at H
                        have c18b0 : decide (x22_1 < (x6_1.length : Int)) = true := decide_eq_true c18
                        clear c18
                        have H' := Aside0.mk H
                        clear H
                        have p320 : 0 ≤ (x22_1 : Int) := of_decide_eq_true (by first | (with_reducible assumption) | assumption)
                        have q320 : x22_1 < (l1.length : Int) := of_decide_eq_true (by first | (with_reducible assumption) | assumption)
                        obtain ⟨ad320, e320, hx320_0⟩ := Kd.at_bool HR1.out x22_1 p320 q320
                        (try rw [← Nbq16.out] at hx320_0)
                        cases e320
                        replace hx320_0 := (HB.out.cell (World.block_lt_of_cell? w _ hx320_0)).trans hx320_0
                        replace p320 := eq_true p320
                        replace q320 := eq_true q320
                        obtain ⟨Ao19, co19, eo19⟩ := Kd.R_slice HO_6.out
                        subst eo19
                        have p321 : 0 ≤ (x22_1 : Int) := of_decide_eq_true (by first | (with_reducible assumption) | assumption)
                        have q321 : x22_1 < (x6_1.length : Int) := of_decide_eq_true (by first | (with_reducible assumption) | assumption)
                        obtain ⟨ad321, e321, hx321_0⟩ := Kd.at_bool (Kd.R_reads' HO_6.out).2.2 x22_1 p321 q321
                        (try rw [← Nbq16.out] at hx321_0)
                        cases e321
                        replace p321 := eq_true p321
                        replace q321 := eq_true q321
                        go_wp2
                        go_meet
                        case rel => exact ⟨_, (rdOf false x6_1 x22_1), (by first | rfl | (simp; done) | (simp [*]; done)), H', ⟨by have := HK1.out; first | omega | exact Nat.le_refl _⟩, ⟨by (with_reducible repeat (first | apply Kd.R_alloc | apply Kd.R_drewN | apply Kd.R_drew)); exact HO_6.out⟩, ⟨by (with_reducible repeat (first | refine blk_drewN ?_ _ | refine blk_drew ?_ | refine blk_alloc ?_ _)); exact BK315.out⟩, ⟨by repeat (first | (with_reducible first | exact HB.out | apply below_alloc | apply pw_below_drewN | apply below_drew1 | refine below_set ?_ GE315.out) | exact HB.out)⟩⟩
                      · rw [if_neg c18] at H
                        exact absurd H (by simp)
                    · replace c17 := Bool.eq_false_iff.mpr c17
                      subst c17
                      have H1 : (impl_IslandsOf.j1 k1 l1 x6_1 x7_1 x22_1 (l1.length : Int) x22_1 true a0_0 a0_1 l0_2) = some (r1, r2) := by rw [if_neg (show ¬ (false = true) by decide)] at H; exact H
                      clear H
                      have H := H1
                      clear H1
                      have H' := Aside0.mk H
                      clear H
                      have p320 : 0 ≤ (x22_1 : Int) := of_decide_eq_true (by first | (with_reducible assumption) | assumption)
                      have q320 : x22_1 < (l1.length : Int) := of_decide_eq_true (by first | (with_reducible assumption) | assumption)
                      obtain ⟨ad320, e320, hx320_0⟩ := Kd.at_bool HR1.out x22_1 p320 q320
                      (try rw [← Nbq16.out] at hx320_0)
                      cases e320
                      replace hx320_0 := (HB.out.cell (World.block_lt_of_cell? w _ hx320_0)).trans hx320_0
                      replace p320 := eq_true p320
                      replace q320 := eq_true q320
                      go_wp2
                      go_meet
                      case rel => exact ⟨_, (true), (by first | rfl | (simp; done) | (simp [*]; done)), H', ⟨by have := HK1.out; first | omega | exact Nat.le_refl _⟩, ⟨by (with_reducible repeat (first | apply Kd.R_alloc | apply Kd.R_drewN | apply Kd.R_drew)); exact HO_6.out⟩, ⟨by (with_reducible repeat (first | refine blk_drewN ?_ _ | refine blk_drew ?_ | refine blk_alloc ?_ _)); exact BK315.out⟩, ⟨by repeat (first | (with_reducible first | exact HB.out | apply below_alloc | apply pw_below_drewN | apply below_drew1 | refine below_set ?_ GE315.out) | exact HB.out)⟩⟩
                  · rw [if_neg c15] at H
                    exact absurd H (by simp)
                · rw [if_neg c14] at H
                  exact absurd H (by simp)
              case rest =>
                clear HC13
                try clear c1
                try clear q1
                try clear p2
                try clear p3
                try clear q3
                try clear hx3
                try clear c4
                try clear c5
                try clear c5b0
                try clear c5b1
                try clear c6
                try clear c6b0
                try clear c6b1
                try clear c12
                try clear c12b0
                try clear c14
                try clear c14b0
                try clear c15
                try clear c15b0
                try clear c16
                try clear q16
                try clear c17
                try clear c18
                try clear c18b0
                try clear hcz8_0
                try clear hcz8_1
                try clear hcz8_2
                try clear hfz8_0
                try clear hfz8_1
                try clear hfz8_2
                try clear hx320_0
                try clear hx321_0
                try clear p2
                try clear p320
                try clear p321
                try clear q320
                try clear q321
                obtain ⟨kq, x35_12, rfl, HA, HJ12, HO_6, BK315, HB⟩ := hcut
                cases kq with
                | zero => exact absurd HA.out (by simp [impl_IslandsOf.j1])
                | succ kj12 =>
                  have H := HA.out
                  clear HA
                  simp only [impl_IslandsOf.j1] at H
                  by_cases c20 : x35_12 = true
                  · subst c20
                    have H1 : (impl_IslandsOf.l0 kj12 l1 x6_1 x7_1 (l1.length : Int) (wrap64 (x22_1 + 1)) a0_0 a0_1 l0_2) = some (r1, r2) := by rw [if_pos rfl] at H; exact H
                    clear H
                    have H := H1
                    clear H1
                    have H' := Aside0.mk H
                    clear H
                    go_wp2
                    go_roundg kj12
                    case measure => have := HK1.out; have := HJ12.out; omega
                    case rel => exact ⟨(x6_1), (x7_1), (wrap64 (x22_1 + 1)), (by first | rfl | (simp; done) | (simp [*]; done)), (by first | rfl | (simp; done) | (simp [*]; done)), H', ⟨by have := HK1.out; have := HJ12.out; omega⟩, ⟨by (with_reducible repeat (first | apply Kd.R_alloc | apply Kd.R_drewN | apply Kd.R_drew)); exact HO_6.out⟩, ⟨by (with_reducible repeat (first | refine blk_drewN ?_ _ | refine blk_drew ?_ | refine blk_alloc ?_ _)); exact BK315.out⟩, ⟨by repeat (first | (with_reducible first | exact HB.out | apply below_alloc | apply pw_below_drewN | apply below_drew1 | refine below_set ?_ GE315.out) | exact HB.out)⟩⟩
                  · replace c20 := Bool.eq_false_iff.mpr c20
                    subst c20
                    have H1 : (if 0 ≤ x22_1 then (if x22_1 < (x6_1.length : Int) then (impl_IslandsOf.l1 kj12 l1 (x6_1.set (x22_1 : Int).toNat true) (wrap64 (x7_1 + 1)) (([x22_1] : List Int)) (l1.length : Int) x22_1 a0_0 a0_1 l0_2) else (none)) else (none)) = some (r1, r2) := by rw [if_neg (show ¬ (false = true) by decide)] at H; exact H
                    clear H
                    have H := H1
                    clear H1
                    by_cases c21 : 0 ≤ x22_1
                    · rw [if_pos c21] at H
                      have c21b0 : decide (0 ≤ x22_1) = true := decide_eq_true c21
                      clear c21
                      by_cases c22 : x22_1 < (x6_1.length : Int)
                      · rw [if_pos c22] at H
                        have c22b0 : decide (x22_1 < (x6_1.length : Int)) = true := decide_eq_true c22
                        clear c22
                        obtain ⟨y322, hy322⟩ : ∃ y_ : List Bool, y_ = (x6_1.set (x22_1 : Int).toNat true) := ⟨_, rfl⟩
                        replace H : (impl_IslandsOf.l1 kj12 l1 y322 (wrap64 (x7_1 + 1)) (([x22_1] : List Int)) (l1.length : Int) x22_1 a0_0 a0_1 l0_2) = some (r1, r2) := by first | (rw [hy322]; with_reducible exact H) | (have H2_ := (Option.bind_some _ _).symm.trans H; rw [hy322]; with_reducible exact H2_) | (have H2_ := (Option.bind_some _ _).symm.trans H; with_reducible exact H2_) | with_reducible exact H | (rw [hy322]; exact H) | exact H
                        have Ny322 := Aside0.mk hy322
                        clear hy322
                        obtain ⟨y323, hy323⟩ : ∃ y_ : List Int, y_ = (([x22_1] : List Int)) := ⟨_, rfl⟩
                        replace H : (impl_IslandsOf.l1 kj12 l1 y322 (wrap64 (x7_1 + 1)) y323 (l1.length : Int) x22_1 a0_0 a0_1 l0_2) = some (r1, r2) := by first | (rw [hy323]; with_reducible exact H) | (have H2_ := (Option.bind_some _ _).symm.trans H; rw [hy323]; with_reducible exact H2_) | (have H2_ := (Option.bind_some _ _).symm.trans H; with_reducible exact H2_) | with_reducible exact H | (rw [hy323]; exact H) | exact H
                        have Ny323 := Aside0.mk hy323
                        clear hy323
                        have H' := Aside0.mk H
                        clear H
                        have p23 : 0 ≤ (x22_1 : Int) := of_decide_eq_true (by first | (with_reducible assumption) | assumption)
                        have q23 : (x22_1 : Int) < ((x6_1.length : Int) : Int) := of_decide_eq_true (by first | (with_reducible assumption) | assumption)
                        obtain ⟨go23, co23, eo23, gb23, gl23, cl23, HG23⟩ := Kd.R_form HO_6.out (by omega)
                        (first | cases eo23 | (injection eo23 with ea_ en_ ec_; (first | subst ea_ | (injection ea_ with ea_; subst ea_)); subst ec_; clear en_))
                        have GB23 := Aside0.mk gb23
                        have GG23 := Aside0.mk HG23
                        clear gb23 gl23 HG23
                        obtain ⟨hx23_0, hf23_0⟩ := Kd.R_celln false HO_6.out (x22_1 : Int) p23 q23
                        replace p23 := eq_true p23
                        replace q23 := eq_true q23
                        have HP24 := Kd.R_putg HO_6.out (x22_1 : Int) true
                        go_wp2_with (first | ((with_reducible refine gate_store (t := 4) (p := 40) rfl ?_); refine store_event (t := 4) (p := 40) (v := ?vo_w25) (w1 := (wc.setCell ⟨go23, (x22_1 : Int).toNat, none⟩ (.bool true))) ?hg ?ho ?hn ?hr ?_; (case ho => rfl); (case hg => rfl); (case hn => rfl); (case hr => first | (go_simp; done) | (go_simp; rfl)); intro w25 hw; have hg : wc.grownBy w25 (some go23) := (by rw [hw]; exact HP24.2); have hp_ : Kd.R Kd.bool 4 w25 w.heap.size (fun _ => True) (.slice (some ⟨go23, 0, none⟩) x6_1.length co23) y322 := (by rw [hw, Ny322.out]; exact HP24.1); clear HP24; have n0_ := Aside0.mk (hp_); have n1_ := Aside0.mk (blk_grown (g := gb315) (o := .cells #[.int .i64 a0_0, .int .i64 a0_1, .slice A0_2 l0_2.length c0_2] 61 (0, 0)) (by (with_reducible repeat (first | refine blk_drewN ?_ _ | refine blk_drew ?_ | refine blk_alloc ?_ _)); exact BK315.out) hg (Kd.R_ne HO_6.out BK315.out (by decide))); have n2_ := Aside0.mk ((by rw [hw]; exact below_set (HB.out) GB23.out : Below w.heap.size w w25)); clear HO_6; clear BK315; clear HB; have HO_6 := n0_; have BK315 := n1_; have HB := n2_; clear n0_ n1_ n2_; clear hg hw hp_) | ((with_reducible refine gate_dst (N := 42) rfl ?_); refine Kd.R_lit (Kd.int .i64) _ 3 ?hg (N := 42) ?hd (xs := ([x22_1] : List Int)) (inner := [.int .i64 x22_1]) (ok := fun _ => True) (okp := fun _ => True) ?hr ?hp (fun _ hk => hk) trivial (Below.refl _ _) (Nat.le_refl _) (by simp) ?_; (case hd => rfl); (case hg => rfl); (case hr => first | (go_simp; done) | (go_simp; rfl)); (case hp => exact (Reps.one (show Kd.M (Kd.int .i64) _ _ _ x22_1 [.int .i64 x22_1] from rfl) (Reps.none _ _))); intro v324 w26 ho27 hb hg_ hnew_; clear hg_ hnew_; (first | rw [← Ny323.out] at ho27 | (simp only [Int.reduceToNat] at ho27; rw [← Ny323.out] at ho27)); have n0_ := Aside0.mk (Kd.R_below (by (with_reducible repeat (first | apply Kd.R_alloc | apply Kd.R_drewN | apply Kd.R_drew)); exact HO_6.out) hb); have n1_ := Aside0.mk (Kd.R_lower ho27 (below_size (by repeat (first | (with_reducible first | exact HB.out | apply below_alloc | apply pw_below_drewN | apply below_drew1 | refine below_set ?_ GE315.out) | exact HB.out)))); have n2_ := Aside0.mk (blk_below (g := gb315) (o := .cells #[.int .i64 a0_0, .int .i64 a0_1, .slice A0_2 l0_2.length c0_2] 61 (0, 0)) (by (with_reducible repeat (first | refine blk_drewN ?_ _ | refine blk_drew ?_ | refine blk_alloc ?_ _)); exact BK315.out) hb); have n3_ := Aside0.mk (below_step (by repeat (first | (with_reducible first | exact HB.out | apply below_alloc | apply pw_below_drewN | apply below_drew1 | refine below_set ?_ GE315.out) | exact HB.out)) hb); clear HO_6; clear BK315; clear HB; have HO_6 := n0_; have HO325 := n1_; have BK315 := n2_; have HB := n3_; clear n0_ n1_ n2_ n3_; clear hb ho27))
                        go_loopg [9] kj12 (fun kq v9 w' => ∃ (x6_3 : List Bool) (x9_3 : List Int), Aside0 (impl_IslandsOf.l1 kq l1 x6_3 (wrap64 (x7_1 + 1)) x9_3 (l1.length : Int) x22_1 a0_0 a0_1 l0_2 = some (r1, r2)) ∧ Aside0 (kq ≤ kj12) ∧ Aside0 (Kd.R Kd.bool 4 w' w.heap.size (fun _ => True) (.slice (some ⟨go23, 0, none⟩) x6_1.length co23) x6_3) ∧ Aside0 (Kd.Q (Kd.int .i64) 3 w' w.heap.size (fun _ => True) v9 x9_3) ∧ Aside0 (w'.heap[gb315]? = some (.cells #[.int .i64 a0_0, .int .i64 a0_1, (.slice A0_2 l0_2.length c0_2)] 61 (0, 0))) ∧ Aside0 (Below w.heap.size w w'))
                        case atStart => exact ⟨(y322), (y323), H', ⟨Nat.le_refl _⟩, ⟨by (with_reducible repeat (first | apply Kd.R_alloc | apply Kd.R_drewN | apply Kd.R_drew)); exact HO_6.out⟩, ⟨Kd.Q_of_R (by (with_reducible repeat (first | apply Kd.R_alloc | apply Kd.R_drewN | apply Kd.R_drew)); exact HO325.out)⟩, ⟨by (with_reducible repeat (first | refine blk_drewN ?_ _ | refine blk_drew ?_ | refine blk_alloc ?_ _)); exact BK315.out⟩, ⟨by repeat (first | (with_reducible first | exact HB.out | apply below_alloc | apply pw_below_drewN | apply below_drew1 | refine below_set ?_ GE315.out) | exact HB.out)⟩⟩
                        case round =>
                          clear H'
                          try clear c1
                          try clear q1
                          try clear c2
                          try clear p2
                          try clear q2
                          try clear hx2
                          try clear hf2
                          try clear p3
                          try clear q3
                          try clear hx3
                          try clear c4
                          try clear c5
                          try clear c5b0
                          try clear c5b1
                          try clear c6
                          try clear c6b0
                          try clear c6b1
                          try clear p6
                          try clear c12
                          try clear c12b0
                          try clear c14
                          try clear c14b0
                          try clear c15
                          try clear c15b0
                          try clear c16
                          try clear q16
                          try clear c17
                          try clear c18
                          try clear c18b0
                          try clear c20
                          try clear c21
                          try clear c21b0
                          try clear c22
                          try clear c22b0
                          try clear p23
                          try clear q23
                          try clear hx23
                          try clear hf23
                          try clear hcz8_0
                          try clear hcz8_1
                          try clear hcz8_2
                          try clear hfz8_0
                          try clear hfz8_1
                          try clear hfz8_2
                          try clear hx23_0
                          try clear hx320_0
                          try clear hx321_0
                          try clear p2
                          try clear p23
                          try clear p3
                          try clear p320
                          try clear p321
                          try clear q1
                          try clear q16
                          try clear q23
                          try clear q3
                          try clear q320
                          try clear q321
                          obtain ⟨x6_3, x9_3, HA, HK3, HO_6, HO_9, BK315, HB⟩ := hrel
                          have hl6_3 := (Kd.R_reads' HO_6.out).1
                          rw [hl6_3] at HO_6
                          (try simp only [hl6_3])
                          (try simp only [hl6_3] at BK315)
                          (try simp only [hl6_3] at HO_9)
                          cases gk with
                          | zero => exact absurd HA.out (by simp [impl_IslandsOf.l1])
                          | succ k3 =>
                            have H := HA.out
                            clear HA
                            simp only [impl_IslandsOf.l1] at H
                            by_cases c28 : (x9_3.length : Int) > 0
                            · rw [if_pos c28] at H
                              have c28b0 : decide (0 < (x9_3.length : Int)) = true := decide_eq_true c28
                              have c28b1 : decide (0 < x9_3.length) = true := decide_eq_true (by omega)
                              clear c28
                              by_cases c29 : 0 < (x9_3.length : Int)
                              · rw [if_pos c29] at H
                                have c29b0 : decide (0 < (x9_3.length : Int)) = true := decide_eq_true c29
                                have c29b1 : decide (0 < x9_3.length) = true := decide_eq_true (by omega)
                                clear c29
                                by_cases c30 : 1 ≤ (x9_3.length : Int)
                                · rw [if_pos c30] at H
                                  have c30b0 := eq_true c30
                                  have c30b1 : decide (1 ≤ (x9_3.length : Int)) = true := decide_eq_true c30
                                  clear c30
                                  obtain ⟨y327, hy327⟩ : ∃ y_ : List Int, y_ = (x9_3.drop (1 : Int).toNat) := ⟨_, rfl⟩
                                  replace H : ((impl_cellsBeside.f k3 a0_0 a0_1 l0_2 (rd x9_3 0)).bind fun t330 => (impl_IslandsOf.l2 k3 l1 x6_3 (wrap64 (x7_1 + 1)) y327 (l1.length : Int) x22_1 t330 (t330.length : Int) 0 a0_0 a0_1 l0_2)) = some (r1, r2) := by first | (rw [hy327]; with_reducible exact H) | (have H2_ := (Option.bind_some _ _).symm.trans H; rw [hy327]; with_reducible exact H2_) | (have H2_ := (Option.bind_some _ _).symm.trans H; with_reducible exact H2_) | with_reducible exact H | (rw [hy327]; exact H) | exact H
                                  have Ny327 := Aside0.mk hy327
                                  clear hy327
                                  replace H := Option.bind_eq_some_iff.mp H
                                  obtain ⟨t330, A310, H⟩ := H
                                  replace H : (impl_IslandsOf.l2 k3 l1 x6_3 (wrap64 (x7_1 + 1)) y327 (l1.length : Int) x22_1 t330 (t330.length : Int) 0 a0_0 a0_1 l0_2) = some (r1, r2) := H
                                  have A31 := Aside0.mk A310
                                  clear A310
                                  have H' := Aside0.mk H
                                  clear H
                                  obtain ⟨Ao32, co32, eo32, _⟩ := Kd.Q_slice HO_9.out
                                  subst eo32
                                  have p326 : 0 ≤ (0 : Int) := (by omega)
                                  have q326 : 0 < (x9_3.length : Int) := of_decide_eq_true (by first | (with_reducible assumption) | assumption)
                                  obtain ⟨ad326, e326, hx326_0⟩ := Kd.at_int (Kd.Q_reads' HO_9.out).2.2 0 p326 q326
                                  cases e326
                                  have qi326 : (0 < x9_3.length) = True := eq_true (by omega)
                                  (try rw [show ((0 : Int)).toNat = 0 from rfl] at hx326_0)
                                  (try rw [Addr.add_zero'] at hx326_0)
                                  replace p326 := eq_true p326
                                  replace q326 := eq_true q326
                                  have q33 : (1 : Int) ≤ ((x9_3.length : Int) : Int) := of_decide_eq_true (by first | (with_reducible assumption) | assumption)
                                  obtain ⟨i033, hi033, _, hsz33, _⟩ := info_parts info3
                                  have hcut33 := cut_from (P := Try.prog) 25 3 .i64 Try.underlying25 hi033 1 hsz33 (some ad326) x9_3.length co32 1 (by omega) q33
                                  have hr33 := Kd.Q_drop (k := (1 : Int).toNat) HO_9.out (by omega)
                                  obtain ⟨A33, hA33⟩ : ∃ A1, A1 = (if co32 = (1 : Int).toNat then (some ad326) else ((some ad326) : Option Addr).map (·.add ((1 : Int).toNat * 1))) := ⟨_, rfl⟩
                                  obtain ⟨c33, hc33⟩ : ∃ c1, c1 = co32 - (1 : Int).toNat := ⟨_, rfl⟩
                                  have hy33 : y327.length = x9_3.length - (1 : Int).toNat := (by rw [Ny327.out, List.length_drop])
                                  rw [← Ny327.out] at hr33
                                  rw [← hy33, ← hA33, ← hc33] at hcut33
                                  replace hr33 : Kd.Q (Kd.int .i64) 3 wr w.heap.size (fun _ => True) (.slice A33 y327.length c33) y327 := (by rw [hA33, hc33, hy33]; exact hr33)
                                  have HE33 : Aside0 ((Value.slice A33 y327.length c33).ownBlock = (.slice (some ad326) x9_3.length co32 : Value).ownBlock) := ⟨by rw [hA33]; split <;> (cases ((some ad326) : Option Addr) <;> rfl)⟩
                                  clear hy33 hi033 hsz33 HO_9 hA33 hc33
                                  have HO329 := Aside0.mk hr33
                                  clear hr33
                                  replace q33 := eq_true q33
                                  have hcz34_0 : wr.cell? ⟨gb315, 0, none⟩ = some (.int .i64 a0_0) := (blk_cell BK315.out 0).trans rfl
                                  have hcz34_1 : wr.cell? ⟨gb315, 1, none⟩ = some (.int .i64 a0_1) := (blk_cell BK315.out 1).trans rfl
                                  have hcz34_2 : wr.cell? ⟨gb315, 2, none⟩ = some (.slice A0_2 l0_2.length c0_2) := (blk_cell BK315.out 2).trans rfl
                                  have hfz34_0 := blk_frozen BK315.out 0
                                  have hfz34_1 := blk_frozen BK315.out 1
                                  have hfz34_2 := blk_frozen BK315.out 2
                                  go_wp2_with (first | ((with_reducible refine gate_callee (f := 165) rfl ?_); refine goesL_ (some 53) rfl rfl Try.func165 (by kernel_rfl) rfl #[.agg #[.int .i64 a0_0, .int .i64 a0_1, .slice A0_2 l0_2.length c0_2], .int .i64 (rd x9_3 0)] rfl (by (try simp only [List.map_toArray, List.map_cons, List.map_nil]); first | done | rfl | (simp only [List.length_drop, List.length_take]; rfl)) ?_; (with_reducible refine (impl_cellsBeside.calls k3 a0_0 a0_1 _ _ l0_2 (rd x9_3 0) t330 _ ?side1 ?side2 A31.out).mono ?_); (case side1 => repeat (first | exact (Kd.C_below HR0_2.out HB.out) | (with_reducible refine Kd.C_alloc ?_ _) | (with_reducible refine Kd.C_drewN ?_ _) | (with_reducible refine Kd.C_drew ?_))); (case side2 => exact HC0_2.out); rintro e w35 ⟨v331, rfl, ho0, hb⟩; refine ⟨_, rfl, ?_⟩; have n0_ := Aside0.mk (Kd.R_below (by (with_reducible repeat (first | apply Kd.R_alloc | apply Kd.R_drewN | apply Kd.R_drew)); exact HO_6.out) hb); have n1_ := Aside0.mk (Kd.Q_elder' (by (with_reducible repeat (first | apply Kd.Q_alloc | apply Kd.Q_drewN | apply Kd.Q_drew)); exact HO329.out) (Kd.R_base ho0) hb); have n2_ := Aside0.mk (Kd.R_lower (Kd.R_new' ho0 (Kd.Q_lt (by (with_reducible repeat (first | apply Kd.Q_alloc | apply Kd.Q_drewN | apply Kd.Q_drew)); exact HO329.out))) (below_size (by repeat (first | (with_reducible first | exact HB.out | apply below_alloc | apply pw_below_drewN | apply below_drew1 | refine below_set ?_ GE315.out) | exact HB.out)))); have n3_ := Aside0.mk (blk_below (g := gb315) (o := .cells #[.int .i64 a0_0, .int .i64 a0_1, .slice A0_2 l0_2.length c0_2] 61 (0, 0)) (by (with_reducible repeat (first | refine blk_drewN ?_ _ | refine blk_drew ?_ | refine blk_alloc ?_ _)); exact BK315.out) hb); have n4_ := Aside0.mk (below_step (by repeat (first | (with_reducible first | exact HB.out | apply below_alloc | apply pw_below_drewN | apply below_drew1 | refine below_set ?_ GE315.out) | exact HB.out)) hb); clear HO_6; clear HO329; clear BK315; clear HB; have HO_6 := n0_; have HO329 := n1_; have HO332 := n2_; have BK315 := n3_; have HB := n4_; clear n0_ n1_ n2_ n3_ n4_; (try clear hb); (try clear hb2); (try clear hk); (try clear hi); (try clear ho0); obtain ⟨Ao36, co36, eo36⟩ := Kd.R_slice HO332.out; subst eo36))
                                  go_loopg [9, 55] k3 (fun kq v9 v55 w' => ∃ (x6_4 : List Bool) (x9_4 : List Int) (x55_4 : Int), v55 = .int .i64 x55_4 ∧ Aside0 (impl_IslandsOf.l2 kq l1 x6_4 (wrap64 (x7_1 + 1)) x9_4 (l1.length : Int) x22_1 t330 (t330.length : Int) x55_4 a0_0 a0_1 l0_2 = some (r1, r2)) ∧ Aside0 (kq ≤ k3) ∧ Aside0 (Kd.R Kd.bool 4 w' w.heap.size (fun _ => True) (.slice (some ⟨go23, 0, none⟩) x6_3.length co23) x6_4) ∧ Aside0 (Kd.Q (Kd.int .i64) 3 w' w.heap.size (fun k_ => some k_ ≠ ((.slice Ao36 t330.length co36) : Value).ownBlock) v9 x9_4) ∧ Aside0 (Kd.R (Kd.int .i64) 3 w' w.heap.size (fun k_ => some k_ ≠ (v9 : Value).ownBlock) (.slice Ao36 t330.length co36) t330) ∧ Aside0 (w'.heap[gb315]? = some (.cells #[.int .i64 a0_0, .int .i64 a0_1, (.slice A0_2 l0_2.length c0_2)] 61 (0, 0))) ∧ Aside0 (Below w.heap.size w w'))
                                  case atStart => exact ⟨(x6_3), (y327), (0), (by first | rfl | (simp; done) | (simp [*]; done)), H', ⟨Nat.le_refl _⟩, ⟨by (try simp only [hl6_3]); (with_reducible repeat (first | apply Kd.R_alloc | apply Kd.R_drewN | apply Kd.R_drew)); exact HO_6.out⟩, ⟨by (try simp only [hl6_3]); (with_reducible repeat (first | apply Kd.Q_alloc | apply Kd.Q_drewN | apply Kd.Q_drew)); exact Kd.Q_mono HO329.out (fun _ hk => hk.2)⟩, ⟨by (try simp only [hl6_3]); (with_reducible repeat (first | apply Kd.R_alloc | apply Kd.R_drewN | apply Kd.R_drew)); exact Kd.R_mono HO332.out (fun _ hk => hk.2)⟩, ⟨by (try simp only [hl6_3]); (with_reducible repeat (first | refine blk_drewN ?_ _ | refine blk_drew ?_ | refine blk_alloc ?_ _)); exact BK315.out⟩, ⟨by repeat (first | (with_reducible first | exact HB.out | apply below_alloc | apply pw_below_drewN | apply below_drew1 | refine below_set ?_ GE315.out) | exact HB.out)⟩⟩
                                  case round =>
                                    clear H'
                                    try clear c1
                                    try clear q1
                                    try clear c2
                                    try clear p2
                                    try clear q2
                                    try clear hx2
                                    try clear hf2
                                    try clear c3
                                    try clear p3
                                    try clear q3
                                    try clear hx3
                                    try clear qi3
                                    try clear c4
                                    try clear c5
                                    try clear c5b0
                                    try clear c5b1
                                    try clear c6
                                    try clear c6b0
                                    try clear c6b1
                                    try clear p6
                                    try clear c12
                                    try clear c12b0
                                    try clear c14
                                    try clear c14b0
                                    try clear c15
                                    try clear c15b0
                                    try clear c16
                                    try clear q16
                                    try clear c17
                                    try clear c18
                                    try clear c18b0
                                    try clear c20
                                    try clear c21
                                    try clear c21b0
                                    try clear c22
                                    try clear c22b0
                                    try clear p23
                                    try clear q23
                                    try clear hx23
                                    try clear hf23
                                    try clear c28
                                    try clear c28b0
                                    try clear c28b1
                                    try clear c29
                                    try clear c29b0
                                    try clear c29b1
                                    try clear c30
                                    try clear c30b0
                                    try clear c30b1
                                    try clear p32
                                    try clear q32
                                    try clear hx32
                                    try clear qi32
                                    try clear c33
                                    try clear q33
                                    try clear hcz34_0
                                    try clear hcz34_1
                                    try clear hcz34_2
                                    try clear hcz8_0
                                    try clear hcz8_1
                                    try clear hcz8_2
                                    try clear hfz34_0
                                    try clear hfz34_1
                                    try clear hfz34_2
                                    try clear hfz8_0
                                    try clear hfz8_1
                                    try clear hfz8_2
                                    try clear hx23_0
                                    try clear hx320_0
                                    try clear hx321_0
                                    try clear hx326_0
                                    try clear p2
                                    try clear p23
                                    try clear p3
                                    try clear p320
                                    try clear p321
                                    try clear p326
                                    try clear p6
                                    try clear q1
                                    try clear q16
                                    try clear q2
                                    try clear q23
                                    try clear q3
                                    try clear q320
                                    try clear q321
                                    try clear q326
                                    try clear q33
                                    obtain ⟨x6_4, x9_4, x55_4, rfl, HA, HK4, HO_6, HO_9, HO_53, BK315, HB⟩ := hrel
                                    have hl6_4 := (Kd.R_reads' HO_6.out).1
                                    rw [hl6_4] at HO_6
                                    (try simp only [hl6_4])
                                    (try simp only [hl6_4] at BK315)
                                    (try simp only [hl6_4] at HO_9)
                                    (try simp only [hl6_4] at HO_53)
                                    cases gk with
                                    | zero => exact absurd HA.out (by simp [impl_IslandsOf.l2])
                                    | succ k4 =>
                                      have H := HA.out
                                      clear HA
                                      simp only [impl_IslandsOf.l2] at H
                                      by_cases c37 : x55_4 < (t330.length : Int)
                                      · rw [if_pos c37] at H
                                        have c37b0 : decide (x55_4 < (t330.length : Int)) = true := decide_eq_true c37
                                        clear c37
                                        by_cases c38 : 0 ≤ x55_4
                                        · rw [if_pos c38] at H
                                          have c38b0 : decide (0 ≤ x55_4) = true := decide_eq_true c38
                                          clear c38
                                          by_cases c39 : x55_4 < (t330.length : Int)
                                          · rw [if_pos c39] at H
                                            have c39b0 : decide (x55_4 < (t330.length : Int)) = true := decide_eq_true c39
                                            clear c39
                                            by_cases c40 : 0 ≤ (rd t330 x55_4)
                                            · rw [if_pos c40] at H
                                              have c40b0 : decide (0 ≤ (rd t330 x55_4)) = true := decide_eq_true c40
                                              clear c40
                                              by_cases c41 : (rd t330 x55_4) < (l1.length : Int)
                                              · rw [if_pos c41] at H
                                                have c41b0 : decide ((rd t330 x55_4) < (l1.length : Int)) = true := decide_eq_true c41
                                                clear c41
                                                obtain ⟨bq42, hbq42⟩ : ∃ b_ : Bool, b_ = (rdOf false l1 (rd t330 x55_4)) := ⟨_, rfl⟩
                                                replace H : (if bq42 = true then (if (rd t330 x55_4) < (x6_4.length : Int) then (if (rdOf false x6_4 (rd t330 x55_4) = true) then (impl_IslandsOf.l2 k4 l1 x6_4 (wrap64 (x7_1 + 1)) x9_4 (l1.length : Int) x22_1 t330 (t330.length : Int) (wrap64 (x55_4 + 1)) a0_0 a0_1 l0_2) else (if x9_4.length < 17592186044416 then (impl_IslandsOf.l2 k4 l1 (x6_4.set ((rd t330 x55_4) : Int).toNat true) (wrap64 (x7_1 + 1)) (x9_4 ++ [rd t330 x55_4]) (l1.length : Int) x22_1 t330 (t330.length : Int) (wrap64 (x55_4 + 1)) a0_0 a0_1 l0_2) else (none))) else (none)) else (impl_IslandsOf.l2 k4 l1 x6_4 (wrap64 (x7_1 + 1)) x9_4 (l1.length : Int) x22_1 t330 (t330.length : Int) (wrap64 (x55_4 + 1)) a0_0 a0_1 l0_2)) = some (r1, r2) := by rw [← hbq42] at H; exact H
                                                have Nbq42 := Aside0.mk hbq42
                                                clear hbq42
                                                by_cases c43 : bq42 = true
                                                · subst c43
                                                  have H1 : (if (rd t330 x55_4) < (x6_4.length : Int) then (if (rdOf false x6_4 (rd t330 x55_4) = true) then (impl_IslandsOf.l2 k4 l1 x6_4 (wrap64 (x7_1 + 1)) x9_4 (l1.length : Int) x22_1 t330 (t330.length : Int) (wrap64 (x55_4 + 1)) a0_0 a0_1 l0_2) else (if x9_4.length < 17592186044416 then (impl_IslandsOf.l2 k4 l1 (x6_4.set ((rd t330 x55_4) : Int).toNat true) (wrap64 (x7_1 + 1)) (x9_4 ++ [rd t330 x55_4]) (l1.length : Int) x22_1 t330 (t330.length : Int) (wrap64 (x55_4 + 1)) a0_0 a0_1 l0_2) else (none))) else (none)) = some (r1, r2) := by rw [if_pos rfl] at H; exact H
                                                  clear H
                                                  have H := H1
                                                  clear H1
                                                  by_cases c44 : (rd t330 x55_4) < (x6_4.length : Int)
                                                  · rw [if_pos c44] at H
                                                    have c44b0 : decide ((rd t330 x55_4) < (x6_4.length : Int)) = true := decide_eq_true c44
                                                    clear c44
                                                    obtain ⟨bq45, hbq45⟩ : ∃ b_ : Bool, b_ = (rdOf false x6_4 (rd t330 x55_4)) := ⟨_, rfl⟩
                                                    replace H : (if (bq45 = true) then (impl_IslandsOf.l2 k4 l1 x6_4 (wrap64 (x7_1 + 1)) x9_4 (l1.length : Int) x22_1 t330 (t330.length : Int) (wrap64 (x55_4 + 1)) a0_0 a0_1 l0_2) else (if x9_4.length < 17592186044416 then (impl_IslandsOf.l2 k4 l1 (x6_4.set ((rd t330 x55_4) : Int).toNat true) (wrap64 (x7_1 + 1)) (x9_4 ++ [rd t330 x55_4]) (l1.length : Int) x22_1 t330 (t330.length : Int) (wrap64 (x55_4 + 1)) a0_0 a0_1 l0_2) else (none))) = some (r1, r2) := by rw [← hbq45] at H; exact H
                                                    have Nbq45 := Aside0.mk hbq45
                                                    clear hbq45
                                                    by_cases c46 : (bq45 = true)
                                                    · subst c46
                                                      have H1 : (impl_IslandsOf.l2 k4 l1 x6_4 (wrap64 (x7_1 + 1)) x9_4 (l1.length : Int) x22_1 t330 (t330.length : Int) (wrap64 (x55_4 + 1)) a0_0 a0_1 l0_2) = some (r1, r2) := by rw [if_pos rfl] at H; exact H
                                                      clear H
                                                      have H := H1
                                                      clear H1
                                                      have H' := Aside0.mk H
                                                      clear H
                                                      have p333 : 0 ≤ (x55_4 : Int) := of_decide_eq_true (by first | (with_reducible assumption) | assumption)
                                                      have q333 : x55_4 < (t330.length : Int) := of_decide_eq_true (by first | (with_reducible assumption) | assumption)
                                                      obtain ⟨ad333, e333, hx333_0⟩ := Kd.at_int (Kd.R_reads' HO_53.out).2.2 x55_4 p333 q333
                                                      cases e333
                                                      replace p333 := eq_true p333
                                                      replace q333 := eq_true q333
                                                      have p334 : 0 ≤ ((rd t330 x55_4) : Int) := of_decide_eq_true (by first | (with_reducible assumption) | assumption)
                                                      have q334 : (rd t330 x55_4) < (l1.length : Int) := of_decide_eq_true (by first | (with_reducible assumption) | assumption)
                                                      obtain ⟨ad334, e334, hx334_0⟩ := Kd.at_bool HR1.out (rd t330 x55_4) p334 q334
                                                      (try rw [← Nbq42.out] at hx334_0)
                                                      (try rw [← Nbq45.out] at hx334_0)
                                                      cases e334
                                                      replace hx334_0 := (HB.out.cell (World.block_lt_of_cell? w _ hx334_0)).trans hx334_0
                                                      replace p334 := eq_true p334
                                                      replace q334 := eq_true q334
                                                      have p335 : 0 ≤ ((rd t330 x55_4) : Int) := of_decide_eq_true (by first | (with_reducible assumption) | assumption)
                                                      have q335 : (rd t330 x55_4) < (x6_4.length : Int) := of_decide_eq_true (by first | (with_reducible assumption) | assumption)
                                                      obtain ⟨ad335, e335, hx335_0⟩ := Kd.at_bool (Kd.R_reads' HO_6.out).2.2 (rd t330 x55_4) p335 q335
                                                      (try rw [← Nbq42.out] at hx335_0)
                                                      (try rw [← Nbq45.out] at hx335_0)
                                                      obtain rfl : (⟨go23, 0, none⟩ : Addr) = ad335 := (by injection e335)
                                                      (first | simp only [add_plain] at hx335_0 | simp only [add_at] at hx335_0 | simp only [Addr.add, Nat.zero_add] at hx335_0 | skip)
                                                      replace p335 := eq_true p335
                                                      replace q335 := eq_true q335
                                                      go_wp2
                                                      (try simp only [← hl6_4])
                                                      go_roundg k4
                                                      case measure => have := HK1.out; have := HJ12.out; have := HK3.out; have := HK4.out; omega
                                                      case rel => exact ⟨(x6_4), (x9_4), (wrap64 (x55_4 + 1)), (by first | rfl | (simp; done) | (simp [*]; done)), H', ⟨by have := HK1.out; have := HJ12.out; have := HK3.out; have := HK4.out; omega⟩, ⟨by (try simp only [hl6_3]); (try simp only [hl6_4]); (with_reducible repeat (first | apply Kd.R_alloc | apply Kd.R_drewN | apply Kd.R_drew)); exact HO_6.out⟩, ⟨by (try simp only [hl6_3]); (try simp only [hl6_4]); (with_reducible repeat (first | apply Kd.Q_alloc | apply Kd.Q_drewN | apply Kd.Q_drew)); exact HO_9.out⟩, ⟨by (try simp only [hl6_3]); (try simp only [hl6_4]); (with_reducible repeat (first | apply Kd.R_alloc | apply Kd.R_drewN | apply Kd.R_drew)); exact HO_53.out⟩, ⟨by (try simp only [hl6_3]); (try simp only [hl6_4]); (with_reducible repeat (first | refine blk_drewN ?_ _ | refine blk_drew ?_ | refine blk_alloc ?_ _)); exact BK315.out⟩, ⟨by repeat (first | (with_reducible first | exact HB.out | apply below_alloc | apply pw_below_drewN | apply below_drew1 | refine below_set ?_ GE315.out) | exact HB.out)⟩⟩
                                                    · replace c46 := Bool.eq_false_iff.mpr c46
                                                      subst c46
                                                      have H1 : (if x9_4.length < 17592186044416 then (impl_IslandsOf.l2 k4 l1 (x6_4.set ((rd t330 x55_4) : Int).toNat true) (wrap64 (x7_1 + 1)) (x9_4 ++ [rd t330 x55_4]) (l1.length : Int) x22_1 t330 (t330.length : Int) (wrap64 (x55_4 + 1)) a0_0 a0_1 l0_2) else (none)) = some (r1, r2) := by rw [if_neg (show ¬ (false = true) by decide)] at H; exact H
                                                      clear H
                                                      have H := H1
                                                      clear H1
                                                      obtain ⟨y336, hy336⟩ : ∃ y_ : List Bool, y_ = (x6_4.set ((rd t330 x55_4) : Int).toNat true) := ⟨_, rfl⟩
                                                      replace H : (if x9_4.length < 17592186044416 then (impl_IslandsOf.l2 k4 l1 y336 (wrap64 (x7_1 + 1)) (x9_4 ++ [rd t330 x55_4]) (l1.length : Int) x22_1 t330 (t330.length : Int) (wrap64 (x55_4 + 1)) a0_0 a0_1 l0_2) else (none)) = some (r1, r2) := by first | (rw [hy336]; with_reducible exact H) | (have H2_ := (Option.bind_some _ _).symm.trans H; rw [hy336]; with_reducible exact H2_) | (have H2_ := (Option.bind_some _ _).symm.trans H; with_reducible exact H2_) | with_reducible exact H | (rw [hy336]; exact H) | exact H
                                                      have Ny336 := Aside0.mk hy336
                                                      clear hy336
                                                      by_cases c48 : x9_4.length < 17592186044416
                                                      · rw [if_pos c48] at H
                                                        have LMc48 := Aside0.mk c48
                                                        clear c48
                                                        obtain ⟨y337, hy337⟩ : ∃ y_ : List Int, y_ = (x9_4 ++ [rd t330 x55_4]) := ⟨_, rfl⟩
                                                        replace H : (impl_IslandsOf.l2 k4 l1 y336 (wrap64 (x7_1 + 1)) y337 (l1.length : Int) x22_1 t330 (t330.length : Int) (wrap64 (x55_4 + 1)) a0_0 a0_1 l0_2) = some (r1, r2) := by first | (rw [hy337]; with_reducible exact H) | (have H2_ := (Option.bind_some _ _).symm.trans H; rw [hy337]; with_reducible exact H2_) | (have H2_ := (Option.bind_some _ _).symm.trans H; with_reducible exact H2_) | with_reducible exact H | (rw [hy337]; exact H) | exact H
                                                        have Ny337 := Aside0.mk hy337
                                                        clear hy337
                                                        have H' := Aside0.mk H
                                                        clear H
                                                        have p333 : 0 ≤ (x55_4 : Int) := of_decide_eq_true (by first | (with_reducible assumption) | assumption)
                                                        have q333 : x55_4 < (t330.length : Int) := of_decide_eq_true (by first | (with_reducible assumption) | assumption)
                                                        obtain ⟨ad333, e333, hx333_0⟩ := Kd.at_int (Kd.R_reads' HO_53.out).2.2 x55_4 p333 q333
                                                        cases e333
                                                        replace p333 := eq_true p333
                                                        replace q333 := eq_true q333
                                                        have p334 : 0 ≤ ((rd t330 x55_4) : Int) := of_decide_eq_true (by first | (with_reducible assumption) | assumption)
                                                        have q334 : (rd t330 x55_4) < (l1.length : Int) := of_decide_eq_true (by first | (with_reducible assumption) | assumption)
                                                        obtain ⟨ad334, e334, hx334_0⟩ := Kd.at_bool HR1.out (rd t330 x55_4) p334 q334
                                                        (try rw [← Nbq42.out] at hx334_0)
                                                        (try rw [← Nbq45.out] at hx334_0)
                                                        cases e334
                                                        replace hx334_0 := (HB.out.cell (World.block_lt_of_cell? w _ hx334_0)).trans hx334_0
                                                        replace p334 := eq_true p334
                                                        replace q334 := eq_true q334
                                                        have p335 : 0 ≤ ((rd t330 x55_4) : Int) := of_decide_eq_true (by first | (with_reducible assumption) | assumption)
                                                        have q335 : (rd t330 x55_4) < (x6_4.length : Int) := of_decide_eq_true (by first | (with_reducible assumption) | assumption)
                                                        obtain ⟨ad335, e335, hx335_0⟩ := Kd.at_bool (Kd.R_reads' HO_6.out).2.2 (rd t330 x55_4) p335 q335
                                                        (try rw [← Nbq42.out] at hx335_0)
                                                        (try rw [← Nbq45.out] at hx335_0)
                                                        obtain rfl : (⟨go23, 0, none⟩ : Addr) = ad335 := (by injection e335)
                                                        (first | simp only [add_plain] at hx335_0 | simp only [add_at] at hx335_0 | simp only [Addr.add, Nat.zero_add] at hx335_0 | skip)
                                                        replace p335 := eq_true p335
                                                        replace q335 := eq_true q335
                                                        have p47 : 0 ≤ ((rd t330 x55_4) : Int) := of_decide_eq_true (by first | (with_reducible assumption) | assumption)
                                                        have q47 : ((rd t330 x55_4) : Int) < ((x6_4.length : Int) : Int) := of_decide_eq_true (by first | (with_reducible assumption) | assumption)
                                                        obtain ⟨hx47_0, hf47_0⟩ := Kd.R_celln false HO_6.out ((rd t330 x55_4) : Int) p47 q47
                                                        replace p47 := eq_true p47
                                                        replace q47 := eq_true q47
                                                        have HP49 := Kd.R_putg HO_6.out ((rd t330 x55_4) : Int) true
                                                        go_wp2_with (first | ((with_reducible refine gate_store (t := 4) (p := 72) rfl ?_); refine store_event (t := 4) (p := 72) (v := ?vo_w50) (w1 := (wr.setCell ⟨go23, ((rd t330 x55_4) : Int).toNat, none⟩ (.bool true))) ?hg ?ho ?hn ?hr ?_; (case ho => rfl); (case hg => rfl); (case hn => rfl); (case hr => first | (go_simp; done) | (go_simp; rfl)); intro w50 hw; have hg : wr.grownBy w50 (some go23) := (by rw [hw]; exact HP49.2); have hp_ : Kd.R Kd.bool 4 w50 w.heap.size (fun _ => True) (.slice (some ⟨go23, 0, none⟩) x6_4.length co23) y336 := (by rw [hw, Ny336.out]; exact HP49.1); clear HP49; have n0_ := Aside0.mk (hp_); have n1_ := Aside0.mk (Kd.Q_over' (v := (.slice (some ⟨go23, 0, none⟩) x6_4.length co23)) (by (with_reducible repeat (first | apply Kd.Q_alloc | apply Kd.Q_drewN | apply Kd.Q_drew)); exact HO_9.out) (Kd.R_typed HO_6.out) (by decide) hg); have n2_ := Aside0.mk (Kd.R_over' (v := (.slice (some ⟨go23, 0, none⟩) x6_4.length co23)) (by (with_reducible repeat (first | apply Kd.R_alloc | apply Kd.R_drewN | apply Kd.R_drew)); exact HO_53.out) (Kd.R_typed HO_6.out) (by decide) hg); have n3_ := Aside0.mk (blk_grown (g := gb315) (o := .cells #[.int .i64 a0_0, .int .i64 a0_1, .slice A0_2 l0_2.length c0_2] 61 (0, 0)) (by (with_reducible repeat (first | refine blk_drewN ?_ _ | refine blk_drew ?_ | refine blk_alloc ?_ _)); exact BK315.out) hg (Kd.R_ne HO_6.out BK315.out (by decide))); have n4_ := Aside0.mk ((by rw [hw]; exact below_set (HB.out) GB23.out : Below w.heap.size w w50)); clear HO_6; clear HO_9; clear HO_53; clear BK315; clear HB; have HO_6 := n0_; have HO_9 := n1_; have HO_53 := n2_; have BK315 := n3_; have HB := n4_; clear n0_ n1_ n2_ n3_ n4_; clear hg hw hp_) | ((with_reducible refine gate_builtin (b := .append) (xs := #[.tmp 73, .tmp 75]) rfl ?_); at_builtin; refine Kd.Q_append (Kd.int .i64) (w0 := w) w.heap.size rfl (.tmp 73) (.tmp 75) 25 3 (.int .i64 0) 8 rfl Try.underlying25 info3 rfl (by decide) (by omega) u9 x9_4 (rd t330 x55_4) [.int .i64 (rd t330 x55_4)] (fun k_ => some k_ ≠ (.slice (some ad333) t330.length co36 : Value).ownBlock) (fun _ => False) rfl rfl ?aP (fun _ hk => hk.elim) ?aF ?aO ?aB ?aS ?aL ?_; (case aP => exact rfl); (case aB => exact (by repeat (first | (with_reducible first | exact HB.out | apply below_alloc | apply pw_below_drewN | apply below_drew1 | refine below_set ?_ GE315.out) | exact HB.out))); (case aF => exact (fun k_ hk => Kd.fresh' (Kd.R_lt (by (with_reducible repeat (first | apply Kd.R_alloc | apply Kd.R_drewN | apply Kd.R_drew)); exact HO_53.out)) k_ hk)); (case aO => exact (by (with_reducible repeat (first | apply Kd.Q_alloc | apply Kd.Q_drewN | apply Kd.Q_drew)); exact HO_9.out)); (case aS => exact (below_size (by repeat (first | (with_reducible first | exact HB.out | apply below_alloc | apply pw_below_drewN | apply below_drew1 | refine below_set ?_ GE315.out) | exact HB.out)))); (case aL => have := LMc48.out; omega); intro v338 w51 ho hb hg hat; rw [← Ny337.out] at ho; have n0_ := Aside0.mk (Kd.R_over' (by (with_reducible repeat (first | apply Kd.R_alloc | apply Kd.R_drewN | apply Kd.R_drew)); exact HO_6.out) (Kd.Q_typed (by (with_reducible repeat (first | apply Kd.Q_alloc | apply Kd.Q_drewN | apply Kd.Q_drew)); exact HO_9.out)) (by decide) hg); have n1_ := Aside0.mk (Kd.R_after (ok := (fun _ => True)) (by (with_reducible repeat (first | apply Kd.R_alloc | apply Kd.R_drewN | apply Kd.R_drew)); exact Kd.R_mono HO_53.out (fun _ hk => ⟨trivial, hk⟩)) hg hat); have n2_ := Aside0.mk (blk_grown (g := gb315) (o := .cells #[.int .i64 a0_0, .int .i64 a0_1, .slice A0_2 l0_2.length c0_2] 61 (0, 0)) (by (with_reducible repeat (first | refine blk_drewN ?_ _ | refine blk_drew ?_ | refine blk_alloc ?_ _)); exact BK315.out) hg (Kd.Q_ne HO_9.out BK315.out (by decide))); have n3_ := Aside0.mk (hb); have n4_ := Aside0.mk (ho); clear HO_6; clear HO_53; clear BK315; clear HB; clear HO_9; have HO_6 := n0_; have HO_53 := n1_; have BK315 := n2_; have HB := n3_; have HO339 := n4_; clear n0_ n1_ n2_ n3_ n4_; clear ho hb hg hat))
                                                        (try simp only [← hl6_4])
                                                        go_roundg k4
                                                        case measure => have := HK1.out; have := HJ12.out; have := HK3.out; have := HK4.out; omega
                                                        case rel => exact ⟨(y336), (y337), (wrap64 (x55_4 + 1)), (by first | rfl | (simp; done) | (simp [*]; done)), H', ⟨by have := HK1.out; have := HJ12.out; have := HK3.out; have := HK4.out; omega⟩, ⟨by (try simp only [hl6_3]); (try simp only [hl6_4]); (with_reducible repeat (first | apply Kd.R_alloc | apply Kd.R_drewN | apply Kd.R_drew)); exact HO_6.out⟩, ⟨by (try simp only [hl6_3]); (try simp only [hl6_4]); (with_reducible repeat (first | apply Kd.Q_alloc | apply Kd.Q_drewN | apply Kd.Q_drew)); exact HO339.out⟩, ⟨by (try simp only [hl6_3]); (try simp only [hl6_4]); (with_reducible repeat (first | apply Kd.R_alloc | apply Kd.R_drewN | apply Kd.R_drew)); exact Kd.R_mono HO_53.out (fun _ hk => hk.2)⟩, ⟨by (try simp only [hl6_3]); (try simp only [hl6_4]); (with_reducible repeat (first | refine blk_drewN ?_ _ | refine blk_drew ?_ | refine blk_alloc ?_ _)); exact BK315.out⟩, ⟨by repeat (first | (with_reducible first | exact HB.out | apply below_alloc | apply pw_below_drewN | apply below_drew1 | refine below_set ?_ GE315.out) | exact HB.out)⟩⟩
                                                      · rw [if_neg c48] at H
                                                        exact absurd H (by simp)
                                                  · rw [if_neg c44] at H
                                                    exact absurd H (by simp)
                                                · replace c43 := Bool.eq_false_iff.mpr c43
                                                  subst c43
                                                  have H1 : (impl_IslandsOf.l2 k4 l1 x6_4 (wrap64 (x7_1 + 1)) x9_4 (l1.length : Int) x22_1 t330 (t330.length : Int) (wrap64 (x55_4 + 1)) a0_0 a0_1 l0_2) = some (r1, r2) := by rw [if_neg (show ¬ (false = true) by decide)] at H; exact H
                                                  clear H
                                                  have H := H1
                                                  clear H1
                                                  have H' := Aside0.mk H
                                                  clear H
                                                  have p333 : 0 ≤ (x55_4 : Int) := of_decide_eq_true (by first | (with_reducible assumption) | assumption)
                                                  have q333 : x55_4 < (t330.length : Int) := of_decide_eq_true (by first | (with_reducible assumption) | assumption)
                                                  obtain ⟨ad333, e333, hx333_0⟩ := Kd.at_int (Kd.R_reads' HO_53.out).2.2 x55_4 p333 q333
                                                  cases e333
                                                  replace p333 := eq_true p333
                                                  replace q333 := eq_true q333
                                                  have p334 : 0 ≤ ((rd t330 x55_4) : Int) := of_decide_eq_true (by first | (with_reducible assumption) | assumption)
                                                  have q334 : (rd t330 x55_4) < (l1.length : Int) := of_decide_eq_true (by first | (with_reducible assumption) | assumption)
                                                  obtain ⟨ad334, e334, hx334_0⟩ := Kd.at_bool HR1.out (rd t330 x55_4) p334 q334
                                                  (try rw [← Nbq42.out] at hx334_0)
                                                  cases e334
                                                  replace hx334_0 := (HB.out.cell (World.block_lt_of_cell? w _ hx334_0)).trans hx334_0
                                                  replace p334 := eq_true p334
                                                  replace q334 := eq_true q334
                                                  go_wp2
                                                  (try simp only [← hl6_4])
                                                  go_roundg k4
                                                  case measure => have := HK1.out; have := HJ12.out; have := HK3.out; have := HK4.out; omega
                                                  case rel => exact ⟨(x6_4), (x9_4), (wrap64 (x55_4 + 1)), (by first | rfl | (simp; done) | (simp [*]; done)), H', ⟨by have := HK1.out; have := HJ12.out; have := HK3.out; have := HK4.out; omega⟩, ⟨by (try simp only [hl6_3]); (try simp only [hl6_4]); (with_reducible repeat (first | apply Kd.R_alloc | apply Kd.R_drewN | apply Kd.R_drew)); exact HO_6.out⟩, ⟨by (try simp only [hl6_3]); (try simp only [hl6_4]); (with_reducible repeat (first | apply Kd.Q_alloc | apply Kd.Q_drewN | apply Kd.Q_drew)); exact HO_9.out⟩, ⟨by (try simp only [hl6_3]); (try simp only [hl6_4]); (with_reducible repeat (first | apply Kd.R_alloc | apply Kd.R_drewN | apply Kd.R_drew)); exact HO_53.out⟩, ⟨by (try simp only [hl6_3]); (try simp only [hl6_4]); (with_reducible repeat (first | refine blk_drewN ?_ _ | refine blk_drew ?_ | refine blk_alloc ?_ _)); exact BK315.out⟩, ⟨by repeat (first | (with_reducible first | exact HB.out | apply below_alloc | apply pw_below_drewN | apply below_drew1 | refine below_set ?_ GE315.out) | exact HB.out)⟩⟩
                                              · rw [if_neg c41] at H
                                                exact absurd H (by simp)
                                            · rw [if_neg c40] at H
                                              exact absurd H (by simp)
                                          · rw [if_neg c39] at H
                                            exact absurd H (by simp)
                                        · rw [if_neg c38] at H
                                          exact absurd H (by simp)
                                      · rw [if_neg c37] at H
                                        have c37b0 : decide (x55_4 < (t330.length : Int)) = false := decide_eq_false c37
                                        clear c37
                                        have H' := Aside0.mk H
                                        clear H
                                        go_wp2
                                        (try simp only [← hl6_3, ← hl6_4])
                                        go_roundg k4
                                        case measure => have := HK1.out; have := HJ12.out; have := HK3.out; have := HK4.out; omega
                                        case rel => exact ⟨(x6_4), (x9_4), H', ⟨by have := HK1.out; have := HJ12.out; have := HK3.out; have := HK4.out; omega⟩, ⟨by (try simp only [hl6_3]); (try simp only [hl6_4]); (with_reducible repeat (first | apply Kd.R_alloc | apply Kd.R_drewN | apply Kd.R_drew)); exact HO_6.out⟩, ⟨by (try simp only [hl6_3]); (try simp only [hl6_4]); (with_reducible repeat (first | apply Kd.Q_alloc | apply Kd.Q_drewN | apply Kd.Q_drew)); exact Kd.Q_mono HO_9.out (fun _ hk => trivial)⟩, ⟨by (try simp only [hl6_3]); (try simp only [hl6_4]); (with_reducible repeat (first | refine blk_drewN ?_ _ | refine blk_drew ?_ | refine blk_alloc ?_ _)); exact BK315.out⟩, ⟨by repeat (first | (with_reducible first | exact HB.out | apply below_alloc | apply pw_below_drewN | apply below_drew1 | refine below_set ?_ GE315.out) | exact HB.out)⟩⟩
                                · rw [if_neg c30] at H
                                  exact absurd H (by simp)
                              · rw [if_neg c29] at H
                                exact absurd H (by simp)
                            · rw [if_neg c28] at H
                              have c28b0 : decide (0 < (x9_3.length : Int)) = false := decide_eq_false c28
                              have c28b1 : decide (0 < x9_3.length) = false := decide_eq_false (by omega)
                              clear c28
                              have H' := Aside0.mk H
                              clear H
                              obtain ⟨Ao52, co52, eo52, _⟩ := Kd.Q_slice HO_9.out
                              subst eo52
                              go_wp2
                              (try simp only [← hl6_3])
                              go_roundg k3
                              case measure => have := HK1.out; have := HJ12.out; have := HK3.out; omega
                              case rel => exact ⟨(x6_3), ((wrap64 (x7_1 + 1))), (wrap64 (x22_1 + 1)), (by first | rfl | (simp; done) | (simp [*]; done)), (by first | rfl | (simp; done) | (simp [*]; done)), H', ⟨by have := HK1.out; have := HJ12.out; have := HK3.out; omega⟩, ⟨by (try simp only [hl6_3]); (with_reducible repeat (first | apply Kd.R_alloc | apply Kd.R_drewN | apply Kd.R_drew)); exact HO_6.out⟩, ⟨by (try simp only [hl6_3]); (with_reducible repeat (first | refine blk_drewN ?_ _ | refine blk_drew ?_ | refine blk_alloc ?_ _)); exact BK315.out⟩, ⟨by repeat (first | (with_reducible first | exact HB.out | apply below_alloc | apply pw_below_drewN | apply below_drew1 | refine below_set ?_ GE315.out) | exact HB.out)⟩⟩
                      · rw [if_neg c22] at H
                        exact absurd H (by simp)
                    · rw [if_neg c21] at H
                      exact absurd H (by simp)
            · rw [if_neg c12] at H
              have c12b0 : decide (x22_1 < (l1.length : Int)) = false := decide_eq_false c12
              clear c12
              simp only [Option.some.injEq, Prod.mk.injEq] at H
              obtain ⟨rfl, rfl⟩ := H
              go_wp2
              go_ret2
              exact ⟨by first | rfl | (simp [errW_none, errW_some] <;> rfl) | (simp [*, errW_none, errW_some] <;> rfl), by repeat (first | (with_reducible first | exact HB.out | apply below_alloc | apply pw_below_drewN | apply below_drew1 | refine below_set ?_ GE315.out) | exact HB.out)⟩
      · rw [if_neg c6] at H
        exact absurd H (by simp)
    · rw [if_neg c5] at H
      exact absurd H (by simp)
  · replace c4 := Bool.eq_false_iff.mpr c4
    subst c4
    have H1 : (some (0, false)) = some (r1, r2) := by rw [if_neg (show ¬ (false = true) by decide)] at H; exact H
    clear H
    have H := H1
    clear H1
    simp only [Option.some.injEq, Prod.mk.injEq] at H
    obtain ⟨rfl, rfl⟩ := H
    go_enter Try.func47, Try.ntmps47
    go_wp2_with (first | ((with_reducible refine gate_dst (N := 2) rfl ?_); refine box_event ?hg (N := 2) ?hd (cs := #[.int .i64 a0_0, .int .i64 a0_1, .slice A0_2 l0_2.length c0_2]) (t := 61) ?hr ?_; (case hd => rfl); (case hg => rfl); (case hr => first | (go_simp; done) | (go_simp; rfl)); intro gb315 hg w53 hbox hb; have n0_ := Aside0.mk (below_step (by repeat (first | (with_reducible first | exact HB.out | apply below_alloc | apply pw_below_drewN | apply below_drew1) | exact HB.out)) hb); have n1_ := Aside0.mk (hbox); have n2_ := Aside0.mk ((by rw [hg]; exact (below_size (by repeat (first | (with_reducible first | exact HB.out | apply below_alloc | apply pw_below_drewN | apply below_drew1) | exact HB.out))) : w.heap.size ≤ gb315)); have n3_ := Aside0.mk ((by rw [hg]; exact (below_size (by repeat (first | (with_reducible first | exact HB.out | apply below_alloc | apply pw_below_drewN | apply below_drew1) | exact HB.out))) : w.heap.size ≤ gb315)); clear HB; have HB := n0_; have BK315 := n1_; have GW315 := n2_; have GE315 := n3_; clear n0_ n1_ n2_ n3_; clear hb hbox hg; have hcz54_0 : w53.cell? ⟨gb315, 0, none⟩ = some (.int .i64 a0_0) := (blk_cell BK315.out 0).trans rfl; have hcz54_1 : w53.cell? ⟨gb315, 1, none⟩ = some (.int .i64 a0_1) := (blk_cell BK315.out 1).trans rfl; have hcz54_2 : w53.cell? ⟨gb315, 2, none⟩ = some (.slice A0_2 l0_2.length c0_2) := (blk_cell BK315.out 2).trans rfl; have hfz54_0 := blk_frozen BK315.out 0; have hfz54_1 := blk_frozen BK315.out 1; have hfz54_2 := blk_frozen BK315.out 2) | ((with_reducible refine gate_callee (f := 163) rfl ?_); refine goesL_ (some 15) rfl rfl Try.func163 (by kernel_rfl) rfl #[.agg #[.int .i64 a0_0, .int .i64 a0_1, .slice A0_2 l0_2.length c0_2], .slice A1 l1.length c1] rfl (by (try simp only [List.map_toArray, List.map_cons, List.map_nil]); first | done | rfl | (simp only [List.length_drop, List.length_take]; rfl)) ?_; (with_reducible refine (impl_isDug.calls k a0_0 a0_1 _ _ l0_2 _ _ l1 false _ ?side1 ?side2 ?side3 ?side4 A3.out).mono ?_); (case side1 => repeat (first | exact (Kd.C_below HR0_2.out HB.out) | (with_reducible refine Kd.C_alloc ?_ _) | (with_reducible refine Kd.C_drewN ?_ _) | (with_reducible refine Kd.C_drew ?_))); (case side2 => exact HC0_2.out); (case side3 => repeat (first | exact (Kd.C_below HR1.out HB.out) | (with_reducible refine Kd.C_alloc ?_ _) | (with_reducible refine Kd.C_drewN ?_ _) | (with_reducible refine Kd.C_drew ?_))); (case side4 => exact HC1.out); rintro e w55 ⟨rfl, hb⟩; refine ⟨_, rfl, ?_⟩; have n0_ := Aside0.mk (blk_below (g := gb315) (o := .cells #[.int .i64 a0_0, .int .i64 a0_1, .slice A0_2 l0_2.length c0_2] 61 (0, 0)) (by (with_reducible repeat (first | refine blk_drewN ?_ _ | refine blk_drew ?_ | refine blk_alloc ?_ _)); exact BK315.out) hb); have n1_ := Aside0.mk (below_step (by repeat (first | (with_reducible first | exact HB.out | apply below_alloc | apply pw_below_drewN | apply below_drew1 | refine below_set ?_ GE315.out) | exact HB.out)) hb); clear BK315; clear HB; have BK315 := n0_; have HB := n1_; clear n0_ n1_; (try clear hb); (try clear hb2); (try clear hk); (try clear hi)))
    go_ret2
    exact ⟨by first | rfl | (simp [errW_none, errW_some] <;> rfl) | (simp [*, errW_none, errW_some] <;> rfl), by repeat (first | (with_reducible first | exact HB.out | apply below_alloc | apply pw_below_drewN | apply below_drew1 | refine below_set ?_ GE315.out) | exact HB.out)⟩

end Go.Proofs.Ytinfalmpncfneaa.PFnShapes
