/- This text is this session's own, not the print's: programs (wip/squeeze.py and others) made it out of what print.sh, or wip/ownprint.py, had written (BYTES set higher), its facts said by short words. -/
import Derived.Test.YtloddihakhgcdaaPFnExactDestinationSumsx0
import Derived.Test.YtloddihakhgcdaaPFnExactDestinationSumsrx0
import Derived.Test.YtloddihakhgcdaaPFnExactDestinationSumswx0
namespace Go.Proofs.Ytloddihakhgcdaa.PFnExactDestinationSums
open Go.RowKit Go.Proofs.YtloddihakhgcdaaW.PrintWords Go.Proofs.YtloddihakhgcdaaW.PrintLast Go.Proofs.YtloddihakhgcdaaW.PrintMore
attribute [local go_sem] max2_int min2_int max_two min_two max_three min_three max_four min_four   -- for this text's walks alone
set_option linter.unusedVariables false
set_option linter.unusedSimpArgs false

/-! ### impl_tonnesIn: function 71 -/
mutual
def impl_tonnesIn.l0 : Nat → List (List Int) → Int → Int → List (List Int) → List Int → List Int → Int → Int → Int → Int → Int → Int → List Int → Option ((List (List Int)))
 | 0, _, _, _, _, _, _, _, _, _, _, _, _, _ => none
 | k + 1, x5, x13, x14, x328000, x328001, x328002, x328003, x328004, x328005, x328006, x328007, x329000, x329001 => if x14 < x13 then (if 2 ≤ 35184372088832 then (if 0 ≤ x14 then (if x14 < (x5.length : Int) then (impl_tonnesIn.l0 k (x5.set (x14 : Int).toNat (List.replicate 2 0)) x13 (wrap64 (x14 + 1)) x328000 x328001 x328002 x328003 x328004 x328005 x328006 x328007 x329000 x329001) else (none)) else (none)) else (none)) else (impl_tonnesIn.l1 k x5 x329001 (x329001.length : Int) 0 x328000 x328001 x328002 x328003 x328004 x328005 x328006 x328007)
def impl_tonnesIn.l1 : Nat → List (List Int) → List Int → Int → Int → List (List Int) → List Int → List Int → Int → Int → Int → Int → Int → Option ((List (List Int)))
 | 0, _, _, _, _, _, _, _, _, _, _, _, _ => none
 | k + 1, x5, x23, x24, x25, x328000, x328001, x328002, x328003, x328004, x328005, x328006, x328007 => if x25 < x24 then (if 0 ≤ x25 then (if x25 < (x23.length : Int) then (if (rd x23 x25) < 0 then (impl_tonnesIn.l1 k x5 x23 x24 (wrap64 (x25 + 1)) x328000 x328001 x328002 x328003 x328004 x328005 x328006 x328007) else (if 0 ≤ (rd x23 x25) then (if (rd x23 x25) < (x5.length : Int) then (if 0 < ((rd_L1 x5 (rd x23 x25)).length : Int) then (if x25 < (x328001.length : Int) then ((some (x5.set ((rd x23 x25) : Int).toNat ((rd_L1 x5 (rd x23 x25)).set (0 : Int).toNat (wrap64 ((rd (rd_L1 x5 (rd x23 x25)) 0) + (rd x328001 x25)))) : List (List Int))).bind fun y342 => (if x25 < (x328002.length : Int) then (if (rd x328002 x25) > 0 then (if 1 < ((rd_L1 y342 (rd x23 x25)).length : Int) then (impl_tonnesIn.l1 k (y342.set ((rd x23 x25) : Int).toNat ((rd_L1 y342 (rd x23 x25)).set (1 : Int).toNat (wrap64 ((rd (rd_L1 y342 (rd x23 x25)) 1) + (rd x328001 x25))))) x23 x24 (wrap64 (x25 + 1)) x328000 x328001 x328002 x328003 x328004 x328005 x328006 x328007) else (none)) else (impl_tonnesIn.l1 k y342 x23 x24 (wrap64 (x25 + 1)) x328000 x328001 x328002 x328003 x328004 x328005 x328006 x328007)) else (none))) else (none)) else (none)) else (none)) else (none))) else (none)) else (none)) else (some x5)
end
def impl_tonnesIn.f (k : Nat) (l0_0 : List (List Int)) (l0_1 : List Int) (l0_2 : List Int) (a0_3 : Int) (a0_4 : Int) (a0_5 : Int) (a0_6 : Int) (a0_7 : Int) (a1_0 : Int) (l1_1 : List Int) : Option ((List (List Int))) := if 0 ≤ a0_5 then (if (a0_5 : Int).toNat ≤ 11728124029610 then ((some (List.replicate (a0_5 : Int).toNat [] : List (List Int))).bind fun y329 => (impl_tonnesIn.l0 k y329 (y329.length : Int) 0 l0_0 l0_1 l0_2 a0_3 a0_4 a0_5 a0_6 a0_7 a1_0 l1_1)) else (none)) else (none)
theorem impl_tonnesIn.mono_l : ∀ k, (∀ y0 y1 y2 y3 y4 y5 y6 y7 y8 y9 y10 y11 y12, LeO (impl_tonnesIn.l0 k y0 y1 y2 y3 y4 y5 y6 y7 y8 y9 y10 y11 y12) (impl_tonnesIn.l0 (k + 1) y0 y1 y2 y3 y4 y5 y6 y7 y8 y9 y10 y11 y12)) ∧ (∀ y0 y1 y2 y3 y4 y5 y6 y7 y8 y9 y10 y11, LeO (impl_tonnesIn.l1 k y0 y1 y2 y3 y4 y5 y6 y7 y8 y9 y10 y11) (impl_tonnesIn.l1 (k + 1) y0 y1 y2 y3 y4 y5 y6 y7 y8 y9 y10 y11))
 | 0 => ⟨fun _ _ _ _ _ _ _ _ _ _ _ _ _ r h => by simp [impl_tonnesIn.l0] at h, fun _ _ _ _ _ _ _ _ _ _ _ _ r h => by simp [impl_tonnesIn.l1] at h⟩
 | k + 1 => by
  obtain ⟨ih0, ih1⟩ := impl_tonnesIn.mono_l k
  refine ⟨?_, ?_⟩
  ·intro y0 y1 y2 y3 y4 y5 y6 y7 y8 y9 y10 y11 y12
   unfold impl_tonnesIn.l0
   repeat' first
   | (with_reducible exact ih0 _ _ _ _ _ _ _ _ _ _ _ _ _)
   | (with_reducible exact ih1 _ _ _ _ _ _ _ _ _ _ _ _)
   | (with_reducible exact LeO.refl _)
   | (with_reducible exact LeO.none _)
   | (with_reducible refine LeO.ite ?_ ?_)
   | (with_reducible refine LeO.bind ?_ (fun _ => ?_))
   | exact ih0 _ _ _ _ _ _ _ _ _ _ _ _ _
   | exact ih1 _ _ _ _ _ _ _ _ _ _ _ _
   | exact LeO.none _
   | refine LeO.ite ?_ ?_
   | refine LeO.bind ?_ (fun _ => ?_)
  ·intro y0 y1 y2 y3 y4 y5 y6 y7 y8 y9 y10 y11
   unfold impl_tonnesIn.l1
   repeat' first
   | (with_reducible exact ih0 _ _ _ _ _ _ _ _ _ _ _ _ _)
   | (with_reducible exact ih1 _ _ _ _ _ _ _ _ _ _ _ _)
   | (with_reducible exact LeO.refl _)
   | (with_reducible exact LeO.none _)
   | (with_reducible refine LeO.ite ?_ ?_)
   | (with_reducible refine LeO.bind ?_ (fun _ => ?_))
   | exact ih0 _ _ _ _ _ _ _ _ _ _ _ _ _
   | exact ih1 _ _ _ _ _ _ _ _ _ _ _ _
   | exact LeO.none _
   | refine LeO.ite ?_ ?_
   | refine LeO.bind ?_ (fun _ => ?_)
theorem impl_tonnesIn.mono : ∀ a0 a1 a2 a3 a4 a5 a6 a7 a8 a9 k, LeO (impl_tonnesIn.f k a0 a1 a2 a3 a4 a5 a6 a7 a8 a9) (impl_tonnesIn.f (k + 1) a0 a1 a2 a3 a4 a5 a6 a7 a8 a9) := by
 intro a0 a1 a2 a3 a4 a5 a6 a7 a8 a9 k
 obtain ⟨ih0, ih1⟩ := impl_tonnesIn.mono_l k
 unfold impl_tonnesIn.f
 repeat' first
   | (with_reducible exact ih0 _ _ _ _ _ _ _ _ _ _ _ _ _)
   | (with_reducible exact ih1 _ _ _ _ _ _ _ _ _ _ _ _)
   | (with_reducible exact LeO.refl _)
   | (with_reducible exact LeO.none _)
   | (with_reducible refine LeO.ite ?_ ?_)
   | (with_reducible refine LeO.bind ?_ (fun _ => ?_))
   | exact ih0 _ _ _ _ _ _ _ _ _ _ _ _ _
   | exact ih1 _ _ _ _ _ _ _ _ _ _ _ _
   | exact LeO.none _
   | refine LeO.ite ?_ ?_
   | refine LeO.bind ?_ (fun _ => ?_)
def impl_tonnesIn.T11 : Bool × List (List Nat × List Nat) := (true, [([], []), ([], []), ([0, 1], [0, 1]), ([2], [2]), ([3], [3]), ([4], [4]), ([], []), ([6], [6]), ([], []), ([7, 8], [7, 8]), ([9], [9]), ([5, 10], [5, 10]), ([3, 0, 1, 2, 3, 4, 5, 6, 7, 8, 9, 10, 11], [3]), ([12, 11, 0, 1, 2, 3, 4, 5, 6, 7, 8, 9, 10, 11], [11, 12])])
def impl_tonnesIn.B11 : List Nat := [0, 0, 3, 7, 15, 31, 0, 64, 0, 448, 960, 2047, 4095, 8191]
theorem impl_tonnesIn.tab11 : rtab .any (opsOf Try.f71 11) = impl_tonnesIn.T11 := by kernel_rfl
theorem impl_tonnesIn.bits11 : waitsOk impl_tonnesIn.T11.2 impl_tonnesIn.B11 = true := by kernel_rfl
def impl_tonnesIn.T13 : Bool × List (List Nat × List Nat) := (true, [([], []), ([], []), ([0, 1], [0, 1]), ([2], [2]), ([3], [3]), ([4], [4]), ([], []), ([6], [6]), ([], []), ([7, 8], [7, 8]), ([9], [9]), ([5, 10], [5, 10]), ([3, 0, 1, 2, 3, 4, 5, 6, 7, 8, 9, 10, 11], [3]), ([12, 11, 0, 1, 2, 3, 4, 5, 6, 7, 8, 9, 10, 11], [11, 12])])
def impl_tonnesIn.B13 : List Nat := [0, 0, 3, 7, 15, 31, 0, 64, 0, 448, 960, 2047, 4095, 8191]
theorem impl_tonnesIn.tab13 : rtab .any (opsOf Try.f71 13) = impl_tonnesIn.T13 := by kernel_rfl
theorem impl_tonnesIn.bits13 : waitsOk impl_tonnesIn.T13.2 impl_tonnesIn.B13 = true := by kernel_rfl
set_option maxHeartbeats 8000000 in
set_option maxRecDepth 100000 in
theorem impl_tonnesIn.calls (k : Nat) (A0_0 : Option Addr) (c0_0 : Nat) (l0_0 : List (List Int)) (A0_1 : Option Addr) (c0_1 : Nat) (l0_1 : List Int) (A0_2 : Option Addr) (c0_2 : Nat) (l0_2 : List Int) (a0_3 : Int) (a0_4 : Int) (a0_5 : Int) (a0_6 : Int) (a0_7 : Int) (a1_0 : Int) (A1_1 : Option Addr) (c1_1 : Nat) (l1_1 : List Int) (r : List (List Int)) (w : World) (hr0_0 : Kd.C (Kd.slice 3 (Kd.int .i64)) w A0_0 l0_0.length l0_0) (hc0_0 : l0_0.length ≤ c0_0) (hr0_1 : Kd.C (Kd.int .i64) w A0_1 l0_1.length l0_1) (hc0_1 : l0_1.length ≤ c0_1) (hr0_2 : Kd.C (Kd.int .i64) w A0_2 l0_2.length l0_2) (hc0_2 : l0_2.length ≤ c0_2) (hr1_1 : Kd.C (Kd.int .i64) w A1_1 l1_1.length l1_1) (hc1_1 : l1_1.length ≤ c1_1) (h : impl_tonnesIn.f k l0_0 l0_1 l0_2 a0_3 a0_4 a0_5 a0_6 a0_7 a1_0 l1_1 = some r) :
  Calls Try.prog 71 #[.agg #[.slice A0_0 l0_0.length c0_0, .slice A0_1 l0_1.length c0_1, .slice A0_2 l0_2.length c0_2, .int .i64 a0_3, .int .i64 a0_4, .int .i64 a0_5, .int .i64 a0_6, .int .i64 a0_7], .agg #[.int .i64 a1_0, .slice A1_1 l1_1.length c1_1]] w fun e w' => ∃ v0_ : Value, e = .returned (v0_) ∧ Kd.S (Kd.slice 3 (Kd.int .i64)) 24 w' w.heap.size (fun _ => True) v0_ r ∧ Below w.heap.size w w' := by
 have hu45 := Try.underlying45
 have hu47 := Try.underlying47
 have HR0_0 := m_ hr0_0
 have HC0_0 := m_ hc0_0
 clear hr0_0 hc0_0
 have HR0_1 := m_ hr0_1
 have HC0_1 := m_ hc0_1
 clear hr0_1 hc0_1
 have HR0_2 := m_ hr0_2
 have HC0_2 := m_ hc0_2
 clear hr0_2 hc0_2
 have HR1_1 := m_ hr1_1
 have HC1_1 := m_ hc1_1
 clear hr1_1 hc1_1
 have HB := m_ (Below.refl w.heap.size w)
 have H : (if 0 ≤ a0_5 then (if (a0_5 : Int).toNat ≤ 11728124029610 then ((some (List.replicate (a0_5 : Int).toNat [] : List (List Int))).bind fun y329 => (impl_tonnesIn.l0 k y329 (y329.length : Int) 0 l0_0 l0_1 l0_2 a0_3 a0_4 a0_5 a0_6 a0_7 a1_0 l1_1)) else (none)) else (none)) = some r := h
 clear h
 by_cases c3 : 0 ≤ a0_5
 ·rw [if_pos c3] at H
  have c3b0 := eq_true c3
  have c3b1 := decide_eq_true c3
  clear c3
  by_cases c4 : (a0_5 : Int).toNat ≤ 11728124029610
  ·rw [if_pos c4] at H
   have c4b0 := eq_true c4
   have c4b1 := decide_eq_true c4
   clear c4
   obtain ⟨y329, hy329⟩ : ∃ y_ : List (List Int), y_ = (List.replicate (a0_5 : Int).toNat []) := ⟨_, rfl⟩
   replace H : (impl_tonnesIn.l0 k y329 (y329.length : Int) 0 l0_0 l0_1 l0_2 a0_3 a0_4 a0_5 a0_6 a0_7 a1_0 l1_1) = some r := by first | (rw [hy329]; with_reducible exact H) | (have H2_ := (Option.bind_some _ _).symm.trans H; rw [hy329]; with_reducible exact H2_) | (have H2_ := (Option.bind_some _ _).symm.trans H; with_reducible exact H2_) | with_reducible exact H | (rw [hy329]; exact H) | exact H
   have Ny329 := m_ hy329
   clear hy329
   have H' := m_ H
   clear H
   go_enter Try.func71, Try.ntmps71
   go_wp2_with (first | ((with_reducible refine gate_dst (N := 2) rfl ?_); refine bxx0 2 45 #[.slice A0_0 l0_0.length c0_0, .slice A0_1 l0_1.length c0_1, .slice A0_2 l0_2.length c0_2, .int .i64 a0_3, .int .i64 a0_4, .int .i64 a0_5, .int .i64 a0_6, .int .i64 a0_7] (be0x0 HB.out) (below_size (be0x0 HB.out)) ?_; clear HB; intro gb327 w5 BK327 HB GE327 hb hg; clear hb hg) | ((with_reducible refine gate_dst (N := 3) rfl ?_); refine bxx0 3 47 #[.int .i64 a1_0, .slice A1_1 l1_1.length c1_1] (be1x0 HB.out GE327.out) (below_size (be1x0 HB.out GE327.out)) ?_; clear HB; intro gb328 w6 BK328 HB GE328 hb hg; have NB327_328 := nbx0 BK327 hg; have NB328_327 := ncx0 BK327 hg; replace BK327 := kbx0 BK327 hb; clear hb hg; have hnb7 := NB327_328.out; have hnc7 := NB328_327.out; obtain ⟨hcz8_0, hcz8_1, hcz8_2, hcz8_3, hcz8_4, hcz8_5, hcz8_6, hcz8_7, hfz8_0, hfz8_1, hfz8_2, hfz8_3, hfz8_4, hfz8_5, hfz8_6, hfz8_7⟩ := cf8x0 BK327.out) | ((with_reducible refine gate_dst (N := 11) rfl ?_); refine Kd.S_make (Kd.slice 3 (Kd.int .i64)) _ 24 rfl (N := 11) rfl 27 _ _ rfl a0_5 rfl rfl Try.underlying27 (.slice none 0 0) 24 info24 rfl (by decide) (by omega) [] (ok := fun _ => True) (okp := fun _ => True) ⟨_, rfl, Kd.R_nil _ _ _ _ _⟩ (fun _ hk => hk) trivial dax0 (Nat.le_trans (Nat.mul_le_mul_right _ (dax0 : a0_5.toNat ≤ 11728124029610)) (by omega)) (Below.refl _ _) (Nat.le_refl _) ?_; intro v330 w9 ho10 hb hg_ hnew_; clear hg_ hnew_; (first | rw [← Ny329.out] at ho10 | (simp only [Int.reduceToNat] at ho10; rw [← Ny329.out] at ho10)); have HO331 := m_ (Kd.S_lower ho10 (below_size (be2x0 HB.out GE327.out GE328.out))); replace BK327 := kbx0 BK327 hb; replace BK328 := kbx0 BK328 hb; replace HB := m_ (below_step (be2x0 HB.out GE327.out GE328.out) hb); clear hb ho10; obtain ⟨Ao11, co11, eo11⟩ := Kd.S_slice HO331.out; subst eo11))
   go_loopg [14] k (fun kq v14 w' => ∃ (x5_1 : List (List Int)) (x14_1 : Int), v14 = .int .i64 x14_1 ∧ Aside0 (impl_tonnesIn.l0 kq x5_1 (y329.length : Int) x14_1 l0_0 l0_1 l0_2 a0_3 a0_4 a0_5 a0_6 a0_7 a1_0 l1_1 = some r) ∧ Aside0 (kq ≤ k) ∧ Aside0 (Kd.S (Kd.slice 3 (Kd.int .i64)) 24 w' w.heap.size (fun _ => True) (.slice Ao11 y329.length co11) x5_1) ∧ Aside0 (w'.heap[gb327]? = some (.cells #[(.slice A0_0 l0_0.length c0_0), (.slice A0_1 l0_1.length c0_1), (.slice A0_2 l0_2.length c0_2), .int .i64 a0_3, .int .i64 a0_4, .int .i64 a0_5, .int .i64 a0_6, .int .i64 a0_7] 45 (0, 0))) ∧ Aside0 (w'.heap[gb328]? = some (.cells #[.int .i64 a1_0, (.slice A1_1 l1_1.length c1_1)] 47 (0, 0))) ∧ Aside0 (Below w.heap.size w w'))
   case atStart => exact ⟨(y329), (0), frx0, H', ⟨Nat.le_refl _⟩, ⟨rSx0 HO331.out⟩, ⟨rBx0 BK327.out⟩, ⟨rBx0 BK328.out⟩, ⟨be2x0 HB.out GE327.out GE328.out⟩⟩
   case round =>
    clear H'
    try clear c3; try clear c3b0; try clear c3b1; try clear c4; try clear c4b0; try clear c4b1; try clear hcz8_0 hcz8_1 hcz8_2 hcz8_3 hcz8_4 hcz8_5 hcz8_6 hcz8_7 hfz8_0 hfz8_1 hfz8_2 hfz8_3 hfz8_4 hfz8_5 hfz8_6 hfz8_7
    obtain ⟨x5_1, x14_1, rfl, HA, HK1, HO_5, BK327, BK328, HB⟩ := hrel
    have hl5_1 := (Kd.S_reads' HO_5.out).1
    rw [hl5_1] at HO_5
    (try simp only [hl5_1])
    (try simp only [hl5_1] at BK327)
    (try simp only [hl5_1] at BK328)
    cases gk with
    | zero => exact absurd HA.out (by simp [impl_tonnesIn.l0])
    | succ k1 =>
     have H := HA.out
     clear HA
     simp only [impl_tonnesIn.l0] at H
     by_cases c12 : x14_1 < (y329.length : Int)
     ·rw [if_pos c12] at H
      have c12b0 := decide_eq_true c12
      clear c12
      by_cases c13 : 2 ≤ 35184372088832
      ·rw [if_pos c13] at H
       have c13b0 := eq_true c13
       have c13b1 := decide_eq_true c13
       clear c13
       obtain ⟨y332, hy332⟩ : ∃ y_ : List Int, y_ = (List.replicate 2 0) := ⟨_, rfl⟩
       replace H : (if 0 ≤ x14_1 then (if x14_1 < (x5_1.length : Int) then (impl_tonnesIn.l0 k1 (x5_1.set (x14_1 : Int).toNat y332) (y329.length : Int) (wrap64 (x14_1 + 1)) l0_0 l0_1 l0_2 a0_3 a0_4 a0_5 a0_6 a0_7 a1_0 l1_1) else (none)) else (none)) = some r := by first | (rw [hy332]; with_reducible exact H) | (have H2_ := (Option.bind_some _ _).symm.trans H; rw [hy332]; with_reducible exact H2_) | (have H2_ := (Option.bind_some _ _).symm.trans H; with_reducible exact H2_) | with_reducible exact H | (rw [hy332]; exact H) | exact H
       have Ny332 := m_ hy332
       clear hy332
       by_cases c14 : 0 ≤ x14_1
       ·rw [if_pos c14] at H
        have c14b0 := decide_eq_true c14
        clear c14
        by_cases c15 : x14_1 < (x5_1.length : Int)
        ·rw [if_pos c15] at H
         have c15b0 := decide_eq_true c15
         clear c15
         obtain ⟨y335, hy335⟩ : ∃ y_ : List (List Int), y_ = (x5_1.set (x14_1 : Int).toNat y332) := ⟨_, rfl⟩
         replace H : (impl_tonnesIn.l0 k1 y335 (y329.length : Int) (wrap64 (x14_1 + 1)) l0_0 l0_1 l0_2 a0_3 a0_4 a0_5 a0_6 a0_7 a1_0 l1_1) = some r := by first | (rw [hy335]; with_reducible exact H) | (have H2_ := (Option.bind_some _ _).symm.trans H; rw [hy335]; with_reducible exact H2_) | (have H2_ := (Option.bind_some _ _).symm.trans H; with_reducible exact H2_) | with_reducible exact H | (rw [hy335]; exact H) | exact H
         have Ny335 := m_ hy335
         clear hy335
         have H' := m_ H
         clear H
         go_wp2_with (first | ((with_reducible refine gate_dst (N := 19) rfl ?_); refine Kd.R_make (Kd.int .i64) _ 3 rfl (N := 19) rfl 24 _ _ rfl 2 rfl rfl Try.underlying24 (.int .i64 0) 8 info3 rfl (by decide) (by omega) 0 (ok := fun _ => True) (okp := fun _ => True) rfl (fun _ hk => hk) trivial (by omega) (by omega) (Below.refl _ _) (Nat.le_refl _) ?_; intro v333 w17 ho18 hb hg_ hnew_; clear hg_ hnew_; (first | rw [← Ny332.out] at ho18 | (simp only [Int.reduceToNat] at ho18; rw [← Ny332.out] at ho18)); obtain ⟨Ao333, co333, eo333⟩ := Kd.R_slice ho18; subst eo333; replace HO_5 := m_ (Kd.S_elder' (rSx0 HO_5.out) (Kd.R_base ho18) hb); have HO334 := m_ (Kd.R_lower ho18 (below_size (be2x0 HB.out GE327.out GE328.out))); replace BK327 := kbx0 BK327 hb; replace BK328 := kbx0 BK328 hb; replace HB := m_ (below_step (be2x0 HB.out GE327.out GE328.out) hb); clear hb ho18; have p16 : 0 ≤ (x14_1 : Int) := dax0; have q16 : (x14_1 : Int) < ((x5_1.length : Int) : Int) := dax0; obtain ⟨go16, co16, eo16, gb16, gl16, cl16, HG16⟩ := Kd.S_form HO_5.out (by omega); (first | cases eo16 | (injection eo16 with ea_ en_ ec_; (first | subst ea_ | (injection ea_ with ea_; subst ea_)); subst ec_; clear en_)); have GB16 := m_ gb16; have GG16 := m_ HG16; clear gb16 gl16 HG16; obtain ⟨_, ce16, hcl16, hM16, hcc16, hfr16, _, _⟩ := Kd.S_elem HO_5.out [] (x14_1 : Int) p16 q16; obtain ⟨ve16_0, rfl, ge16_0⟩ := hM16; have hx16_0 := hcc16 0 _ rfl; have hf16_0 := hfr16 0; (try simp only [show ((Kd.slice 3 (Kd.int .i64))).sz = 1 from rfl, Nat.mul_one, Nat.add_zero] at hx16_0); (try simp only [show ((Kd.slice 3 (Kd.int .i64))).sz = 1 from rfl, Nat.mul_one, Nat.add_zero] at hf16_0); clear hcl16 hcc16 hfr16; (try clear hM16); replace p16 := eq_true p16; replace q16 := eq_true q16; have n_ := m_ (Kd.S_mono (ok' := (fun k_ => some k_ ≠ ((.slice Ao333 y332.length co333) : Value).ownBlock)) HO_5.out (fun k_ hk => hk.2)); clear HO_5; have HO_5 := n_; clear n_; have HX19 := m_ (show Kd.S (Kd.slice 3 (Kd.int .i64)) 24 w17 w.heap.size (fun k_ => ((fun _ => True)) k_ ∧ ¬ ((fun k_ => some k_ = ((.slice Ao333 y332.length co333) : Value).ownBlock)) k_) (.slice (some ⟨go16, 0, none⟩) x5_1.length co11) x5_1 from (by (with_reducible repeat (first | apply Kd.S_alloc | apply Kd.S_drewN | apply Kd.S_drew)); exact Kd.S_mono HO_5.out (fun k_ hk => ⟨trivial, fun e_ => hk e_⟩))); obtain ⟨oki19, ce19, hcl19, hM19, hcc19, hfr19, hoki19, hH19⟩ := Kd.S_elem HX19.out [] (x14_1 : Int) dax0 (by have h_ : (x14_1 : Int) < ((x5_1.length : Int) : Int) := dax0; first | exact h_ | (have e_ := (Kd.S_reads' HO_5.out).1; omega) | simpa using h_); obtain ⟨ve19_0, rfl, ge19_0⟩ := hM19; have HP19 := Kd.S_seg hH19 dax0 (by have h_ : (x14_1 : Int) < ((x5_1.length : Int) : Int) := dax0; first | exact h_ | (have e_ := (Kd.S_reads' HO_5.out).1; omega) | simpa using h_) (seg := [(.slice Ao333 y332.length co333)]) (j := 0) (show 1 ≤ 1 from by decide) (x' := y332) (Kd.M_row (Kd.R_mono (Kd.R_tight rfl (Kd.R_mono (ok' := fun k_ => ((fun _ => True)) k_ ∧ k_ ≠ go16) (Kd.R_apart' (HO334.out) (Kd.S_typed HO_5.out) (by decide)) (fun k_ hk => ⟨trivial, fun e_ => (hk.2) (by rw [e_]; rfl)⟩))) (fun _ h_ => Or.inr (h_)))) (fun _ hk => hk) (fun k_ hk_ => ((Kd.R_mono (ok' := fun k_ => ((fun _ => True)) k_ ∧ k_ ≠ go16) (Kd.R_apart' (HO334.out) (Kd.S_typed HO_5.out) (by decide)) (fun k_ hk => ⟨trivial, fun e_ => (hk.2) (by rw [e_]; rfl)⟩))).1 k_ hk_.symm); have hx19_0 := hcc19 0 _ rfl; (try simp only [show ((Kd.slice 3 (Kd.int .i64))).sz = 1 from rfl, Nat.mul_one, Nat.add_zero] at hx19_0); have hf19_0 := hfr19 0; (try simp only [show ((Kd.slice 3 (Kd.int .i64))).sz = 1 from rfl, Nat.mul_one, Nat.add_zero] at hf19_0); clear hcl19 hcc19 hfr19 hoki19 hH19; (try clear hM19); (try simp only [show ((Kd.slice 3 (Kd.int .i64))).sz = 1 from rfl, Nat.mul_one, Nat.add_zero] at HP19)) | ((with_reducible refine gate_store (t := 24) (p := 20) rfl ?_); refine store_event (t := 24) (p := 20) (v := ?vo_w20) (w1 := (w17.setCell ⟨go16, (x14_1 : Int).toNat, none⟩ ((.slice Ao333 y332.length co333)))) ?hg ?ho ?hn ?hr ?_; (case ho => rfl); (case hg => rfl); (case hn => rfl); (case hr => first | (go_simp; done) | (go_simp; rfl)); intro w20 hw; have hg : w17.grownBy w20 (some go16) := (by rw [hw]; exact HP19.2); have hp_ : Kd.S (Kd.slice 3 (Kd.int .i64)) 24 w20 w.heap.size (fun _ => True) (.slice (some ⟨go16, 0, none⟩) x5_1.length co11) y335 := (by rw [hw, Ny335.out]; exact HP19.1); clear HP19; replace BK327 := m_ (blk_grown (g := gb327) (o := .cells #[.slice A0_0 l0_0.length c0_0, .slice A0_1 l0_1.length c0_1, .slice A0_2 l0_2.length c0_2, .int .i64 a0_3, .int .i64 a0_4, .int .i64 a0_5, .int .i64 a0_6, .int .i64 a0_7] 45 (0, 0)) (rBx0 BK327.out) hg (Kd.S_ne HO_5.out BK327.out (by decide))); replace BK328 := m_ (blk_grown (g := gb328) (o := .cells #[.int .i64 a1_0, .slice A1_1 l1_1.length c1_1] 47 (0, 0)) (rBx0 BK328.out) hg (Kd.S_ne HO_5.out BK328.out (by decide))); replace HO_5 := m_ (hp_); replace HB := m_ ((by rw [hw]; exact below_set (HB.out) GB16.out : Below w.heap.size w w20)); clear HO334 hg hw hp_))
         (try simp only [← hl5_1])
         go_roundg k1
         case measure => have := HK1.out; omega
         case rel => exact ⟨(y335), (wrap64 (x14_1 + 1)), frx0, H', ⟨by have := HK1.out; omega⟩, ⟨by (try simp only [hl5_1]); (with_reducible repeat (first | apply Kd.S_alloc | apply Kd.S_drewN | apply Kd.S_drew)); exact HO_5.out⟩, ⟨by (try simp only [hl5_1]); (with_reducible repeat (first | refine blk_drewN ?_ _ | refine blk_drew ?_ | refine blk_alloc ?_ _)); exact BK327.out⟩, ⟨by (try simp only [hl5_1]); (with_reducible repeat (first | refine blk_drewN ?_ _ | refine blk_drew ?_ | refine blk_alloc ?_ _)); exact BK328.out⟩, ⟨be2x0 HB.out GE327.out GE328.out⟩⟩
        ·rw [if_neg c15] at H
         exact absurd H (by simp)
       ·rw [if_neg c14] at H
        exact absurd H (by simp)
      ·rw [if_neg c13] at H
       exact absurd H (by simp)
     ·rw [if_neg c12] at H
      have c12b0 := decide_eq_false c12
      have c12b9 := c12b0
      (try simp only [hl5_1] at c12b9)
      clear c12
      have H' := m_ H
      clear H
      have hnb21 := NB328_327.out
      have hnc21 := NB327_328.out
      obtain ⟨hcz22_0, hcz22_1, hfz22_0, hfz22_1⟩ := cf2x0 BK328.out
      go_wp2
      go_loopg [25] k1 (fun kq v25 w' => ∃ (x5_2 : List (List Int)) (x25_2 : Int), v25 = .int .i64 x25_2 ∧ Aside0 (impl_tonnesIn.l1 kq x5_2 l1_1 (l1_1.length : Int) x25_2 l0_0 l0_1 l0_2 a0_3 a0_4 a0_5 a0_6 a0_7 = some r) ∧ Aside0 (kq ≤ k1) ∧ Aside0 (Kd.S (Kd.slice 3 (Kd.int .i64)) 24 w' w.heap.size (fun _ => True) (.slice Ao11 x5_1.length co11) x5_2) ∧ Aside0 (w'.heap[gb327]? = some (.cells #[(.slice A0_0 l0_0.length c0_0), (.slice A0_1 l0_1.length c0_1), (.slice A0_2 l0_2.length c0_2), .int .i64 a0_3, .int .i64 a0_4, .int .i64 a0_5, .int .i64 a0_6, .int .i64 a0_7] 45 (0, 0))) ∧ Aside0 (w'.heap[gb328]? = some (.cells #[.int .i64 a1_0, (.slice A1_1 l1_1.length c1_1)] 47 (0, 0))) ∧ Aside0 (Below w.heap.size w w'))
      case atStart => exact ⟨(x5_1), (0), frx0, H', ⟨Nat.le_refl _⟩, ⟨by (try simp only [hl5_1]); (with_reducible repeat (first | apply Kd.S_alloc | apply Kd.S_drewN | apply Kd.S_drew)); exact HO_5.out⟩, ⟨by (try simp only [hl5_1]); (with_reducible repeat (first | refine blk_drewN ?_ _ | refine blk_drew ?_ | refine blk_alloc ?_ _)); exact BK327.out⟩, ⟨by (try simp only [hl5_1]); (with_reducible repeat (first | refine blk_drewN ?_ _ | refine blk_drew ?_ | refine blk_alloc ?_ _)); exact BK328.out⟩, ⟨be2x0 HB.out GE327.out GE328.out⟩⟩
      case round =>
       clear H'
       try clear c12; try clear c12b0; try clear c13; try clear c13b0; try clear c13b1; try clear c14; try clear c14b0; try clear c15; try clear c15b0; try clear p16; try clear q16; try clear hcz22_0 hcz22_1 hfz22_0 hfz22_1; try clear hx16_0; try clear hx19_0
       obtain ⟨x5_2, x25_2, rfl, HA, HK2, HO_5, BK327, BK328, HB⟩ := hrel
       have hl5_2 := (Kd.S_reads' HO_5.out).1
       rw [hl5_2] at HO_5
       (try simp only [hl5_2])
       (try simp only [hl5_2] at BK327)
       (try simp only [hl5_2] at BK328)
       cases gk with
       | zero => exact absurd HA.out (by simp [impl_tonnesIn.l1])
       | succ k2 =>
        have H := HA.out
        clear HA
        simp only [impl_tonnesIn.l1] at H
        by_cases c23 : x25_2 < (l1_1.length : Int)
        ·rw [if_pos c23] at H
         have c23b0 := decide_eq_true c23
         clear c23
         by_cases c24 : 0 ≤ x25_2
         ·rw [if_pos c24] at H
          have c24b0 := decide_eq_true c24
          clear c24
          by_cases c25 : x25_2 < (l1_1.length : Int)
          ·rw [if_pos c25] at H
           have c25b0 := decide_eq_true c25
           clear c25
           by_cases c26 : (rd l1_1 x25_2) < 0
           ·rw [if_pos c26] at H
            have c26b0 := decide_eq_true c26
            clear c26
            have H' := m_ H
            clear H
            obtain ⟨ad336, rfl, hx336_0, p336, q336⟩ := abx0 HB.out HR1_1.out x25_2
            go_wp2
            (try simp only [← hl5_2])
            go_roundg k2
            case measure => have := HK1.out; have := HK2.out; omega
            case rel => exact ⟨(x5_2), (wrap64 (x25_2 + 1)), frx0, H', ⟨by have := HK1.out; have := HK2.out; omega⟩, ⟨by (try simp only [hl5_1, hl5_2]); (with_reducible repeat (first | apply Kd.S_alloc | apply Kd.S_drewN | apply Kd.S_drew)); exact HO_5.out⟩, ⟨by (try simp only [hl5_1, hl5_2]); (with_reducible repeat (first | refine blk_drewN ?_ _ | refine blk_drew ?_ | refine blk_alloc ?_ _)); exact BK327.out⟩, ⟨by (try simp only [hl5_1, hl5_2]); (with_reducible repeat (first | refine blk_drewN ?_ _ | refine blk_drew ?_ | refine blk_alloc ?_ _)); exact BK328.out⟩, ⟨be2x0 HB.out GE327.out GE328.out⟩⟩
           ·rw [if_neg c26] at H
            have c26b0 := decide_eq_false c26
            clear c26
            by_cases c27 : 0 ≤ (rd l1_1 x25_2)
            ·rw [if_pos c27] at H
             have c27b0 := decide_eq_true c27
             clear c27
             by_cases c28 : (rd l1_1 x25_2) < (x5_2.length : Int)
             ·rw [if_pos c28] at H
              have c28b0 := decide_eq_true c28
              clear c28
              by_cases c29 : 0 < ((rd_L1 x5_2 (rd l1_1 x25_2)).length : Int)
              ·rw [if_pos c29] at H
               have c29b0 := decide_eq_true c29
               have c29b1 : decide (0 < (rd_L1 x5_2 (rd l1_1 x25_2)).length) = true := decide_eq_true (by omega)
               clear c29
               by_cases c30 : x25_2 < (l0_1.length : Int)
               ·rw [if_pos c30] at H
                have c30b0 := decide_eq_true c30
                clear c30
                obtain ⟨y340, hy340⟩ : ∃ y_ : List Int, y_ = ((rd_L1 x5_2 (rd l1_1 x25_2)).set (0 : Int).toNat (wrap64 ((rd (rd_L1 x5_2 (rd l1_1 x25_2)) 0) + (rd l0_1 x25_2)))) := ⟨_, rfl⟩
                replace H : ((some (x5_2.set ((rd l1_1 x25_2) : Int).toNat y340 : List (List Int))).bind fun y342 => (if x25_2 < (l0_2.length : Int) then (if (rd l0_2 x25_2) > 0 then (if 1 < ((rd_L1 y342 (rd l1_1 x25_2)).length : Int) then (impl_tonnesIn.l1 k2 (y342.set ((rd l1_1 x25_2) : Int).toNat ((rd_L1 y342 (rd l1_1 x25_2)).set (1 : Int).toNat (wrap64 ((rd (rd_L1 y342 (rd l1_1 x25_2)) 1) + (rd l0_1 x25_2))))) l1_1 (l1_1.length : Int) (wrap64 (x25_2 + 1)) l0_0 l0_1 l0_2 a0_3 a0_4 a0_5 a0_6 a0_7) else (none)) else (impl_tonnesIn.l1 k2 y342 l1_1 (l1_1.length : Int) (wrap64 (x25_2 + 1)) l0_0 l0_1 l0_2 a0_3 a0_4 a0_5 a0_6 a0_7)) else (none))) = some r := by first | (rw [hy340]; with_reducible exact H) | (have H2_ := (Option.bind_some _ _).symm.trans H; rw [hy340]; with_reducible exact H2_) | (have H2_ := (Option.bind_some _ _).symm.trans H; with_reducible exact H2_) | with_reducible exact H | (rw [hy340]; exact H) | exact H
                have Ny340 := m_ hy340
                clear hy340
                obtain ⟨y342, hy342⟩ : ∃ y_ : List (List Int), y_ = (x5_2.set ((rd l1_1 x25_2) : Int).toNat y340) := ⟨_, rfl⟩
                replace H : (if x25_2 < (l0_2.length : Int) then (if (rd l0_2 x25_2) > 0 then (if 1 < ((rd_L1 y342 (rd l1_1 x25_2)).length : Int) then (impl_tonnesIn.l1 k2 (y342.set ((rd l1_1 x25_2) : Int).toNat ((rd_L1 y342 (rd l1_1 x25_2)).set (1 : Int).toNat (wrap64 ((rd (rd_L1 y342 (rd l1_1 x25_2)) 1) + (rd l0_1 x25_2))))) l1_1 (l1_1.length : Int) (wrap64 (x25_2 + 1)) l0_0 l0_1 l0_2 a0_3 a0_4 a0_5 a0_6 a0_7) else (none)) else (impl_tonnesIn.l1 k2 y342 l1_1 (l1_1.length : Int) (wrap64 (x25_2 + 1)) l0_0 l0_1 l0_2 a0_3 a0_4 a0_5 a0_6 a0_7)) else (none)) = some r := by first | (rw [hy342]; with_reducible exact H) | (have H2_ := (Option.bind_some _ _).symm.trans H; rw [hy342]; with_reducible exact H2_) | (have H2_ := (Option.bind_some _ _).symm.trans H; with_reducible exact H2_) | with_reducible exact H | (rw [hy342]; exact H) | exact H
                have Ny342 := m_ hy342
                clear hy342
                by_cases c32 : x25_2 < (l0_2.length : Int)
                ·rw [if_pos c32] at H
                 have c32b0 := decide_eq_true c32
                 clear c32
                 by_cases c33 : (rd l0_2 x25_2) > 0
                 ·rw [if_pos c33] at H
                  have c33b0 : decide (0 < (rd l0_2 x25_2)) = true := decide_eq_true c33
                  clear c33
                  by_cases c34 : 1 < ((rd_L1 y342 (rd l1_1 x25_2)).length : Int)
                  ·rw [if_pos c34] at H
                   have c34b0 := decide_eq_true c34
                   have c34b1 : decide (1 < (rd_L1 y342 (rd l1_1 x25_2)).length) = true := decide_eq_true (by omega)
                   clear c34
                   obtain ⟨y347, hy347⟩ : ∃ y_ : List Int, y_ = ((rd_L1 y342 (rd l1_1 x25_2)).set (1 : Int).toNat (wrap64 ((rd (rd_L1 y342 (rd l1_1 x25_2)) 1) + (rd l0_1 x25_2)))) := ⟨_, rfl⟩
                   replace H : (impl_tonnesIn.l1 k2 (y342.set ((rd l1_1 x25_2) : Int).toNat y347) l1_1 (l1_1.length : Int) (wrap64 (x25_2 + 1)) l0_0 l0_1 l0_2 a0_3 a0_4 a0_5 a0_6 a0_7) = some r := by first | (rw [hy347]; with_reducible exact H) | (have H2_ := (Option.bind_some _ _).symm.trans H; rw [hy347]; with_reducible exact H2_) | (have H2_ := (Option.bind_some _ _).symm.trans H; with_reducible exact H2_) | with_reducible exact H | (rw [hy347]; exact H) | exact H
                   have Ny347 := m_ hy347
                   clear hy347
                   obtain ⟨y349, hy349⟩ : ∃ y_ : List (List Int), y_ = (y342.set ((rd l1_1 x25_2) : Int).toNat y347) := ⟨_, rfl⟩
                   replace H : (impl_tonnesIn.l1 k2 y349 l1_1 (l1_1.length : Int) (wrap64 (x25_2 + 1)) l0_0 l0_1 l0_2 a0_3 a0_4 a0_5 a0_6 a0_7) = some r := by first | (rw [hy349]; with_reducible exact H) | (have H2_ := (Option.bind_some _ _).symm.trans H; rw [hy349]; with_reducible exact H2_) | (have H2_ := (Option.bind_some _ _).symm.trans H; with_reducible exact H2_) | with_reducible exact H | (rw [hy349]; exact H) | exact H
                   have Ny349 := m_ hy349
                   clear hy349
                   have H' := m_ H
                   clear H
                   obtain ⟨ad336, rfl, hx336_0, p336, q336⟩ := abx0 HB.out HR1_1.out x25_2
                   try go_wp2
                   replace HO_5 := m_ (Kd.S_drew HO_5.out)
                   replace BK327 := m_ (blk_drew BK327.out)
                   replace BK328 := m_ (blk_drew BK328.out)
                   replace HB := m_ (below_drew1 HB.out)
                   have p337 : 0 ≤ ((rd l1_1 x25_2) : Int) := dax0
                   have q337 : (rd l1_1 x25_2) < (x5_2.length : Int) := dax0
                   obtain ⟨ad337, A337_0, c337_0, e337, hx337_0, hl337_0, hi337_0⟩ := at_L1 (Kd.S_reads' HO_5.out).2.2 (rd l1_1 x25_2) p337 q337
                   cases e337
                   obtain ⟨ce337, hce337, hMe337, hcc337⟩ := Kd.S_get HO_5.out [] (rd l1_1 x25_2) p337 (by first | exact q337 | exact dax0 | (have e_ := (Kd.S_reads' HO_5.out).1; omega))
                   obtain ⟨ve337_0, rfl, ge337_0⟩ := hMe337
                   have hv337_0 := hcc337 0 _ rfl
                   rw [Nat.add_zero, show ((Kd.slice 3 (Kd.int .i64))).sz = 1 from rfl, Nat.mul_one] at hv337_0
                   replace hv337_0 := Option.some.inj (hv337_0.symm.trans hx337_0)
                   rw [hv337_0] at ge337_0
                   have HL337_0 := m_ (show Kd.R (Kd.int .i64) 3 _ _ _ _ (rd_L1 x5_2 (rd l1_1 x25_2)) from ge337_0)
                   clear hv337_0 ge337_0
                   have HX337_0 := m_ hx337_0
                   clear hcc337 hce337
                   have HR337_0 := m_ hi337_0
                   have HC337_0 := m_ hl337_0
                   clear hi337_0 hl337_0
                   replace p337 := eq_true p337
                   replace q337 := eq_true q337
                   have p338 : 0 ≤ (0 : Int) := (by omega)
                   have q338 : 0 < ((rd_L1 x5_2 (rd l1_1 x25_2)).length : Int) := dax0
                   obtain ⟨ad338, e338, hx338_0⟩ := Kd.at_int (by repeat (first | (with_reducible exact HR337_0.out) | (with_reducible refine Kd.C_alloc ?_ _) | (with_reducible refine Kd.C_drewN ?_ _) | (with_reducible refine Kd.C_drew ?_) | exact HR337_0.out)) 0 p338 q338
                   cases e338
                   have qi338 : (0 < (rd_L1 x5_2 (rd l1_1 x25_2)).length) = True := eq_true (by omega)
                   (try rw [show ((0 : Int)).toNat = 0 from rfl] at hx338_0)
                   (try rw [Addr.add_zero'] at hx338_0)
                   replace p338 := eq_true p338
                   replace q338 := eq_true q338
                   have p339 : 0 ≤ (x25_2 : Int) := dax0
                   have q339 : x25_2 < (l0_1.length : Int) := dax0
                   obtain ⟨ad339, e339, hx339_0⟩ := Kd.at_int HR0_1.out x25_2 p339 q339
                   have hw339_0 := hx339_0
                   cases e339
                   replace hx339_0 := (HB.out.cell (World.block_lt_of_cell? w _ hx339_0)).trans hx339_0
                   replace p339 := eq_true p339
                   replace q339 := eq_true q339
                   have p31 : 0 ≤ (0 : Int) := (by omega)
                   have q31 : (0 : Int) < (((rd_L1 x5_2 (rd l1_1 x25_2)).length : Int) : Int) := dax0
                   have qi31 : (0 < (rd_L1 x5_2 (rd l1_1 x25_2)).length) = True := eq_true (by omega)
                   obtain ⟨go31, co31, eo31, gb31, gl31, cl31, HG31⟩ := Kd.R_form HL337_0.out (by omega)
                   (first | cases eo31 | (injection eo31 with ea_ en_ ec_; (first | subst ea_ | (injection ea_ with ea_; subst ea_)); subst ec_; clear en_))
                   have GB31 := m_ gb31
                   have GG31 := m_ HG31
                   clear gb31 gl31 HG31
                   (first | simp only [add_plain] at hx338_0 | skip)
                   obtain ⟨hx31_0, hf31_0⟩ := Kd.R_celln 0 HL337_0.out (0 : Int) p31 q31
                   (try rw [show ((0 : Int)).toNat = 0 from rfl] at hx31_0)
                   (try simp only [Nat.reduceMul, Nat.zero_mul, Nat.zero_add, Nat.reduceAdd] at hx31_0)
                   (try rw [show ((0 : Int)).toNat = 0 from rfl] at hf31_0)
                   (try simp only [Nat.reduceMul, Nat.zero_mul, Nat.zero_add, Nat.reduceAdd] at hf31_0)
                   replace p31 := eq_true p31
                   replace q31 := eq_true q31
                   have hq37 : ((rd l1_1 x25_2) : Int) < (x5_2.length : Int) := (by have h_ : ((rd l1_1 x25_2) : Int) < ((x5_2.length : Int) : Int) := dax0; first | exact h_ | (have e_ := (Kd.S_reads' HO_5.out).1; omega) | simpa only [List.length_set, List.length_set] using h_)
                   obtain ⟨oki37, ce37, hcl37, hM37, hcc37, hok37, hbk37⟩ := Kd.S_borrow HO_5.out [] ((rd l1_1 x25_2) : Int) dax0 (by first | exact hq37 | exact dax0 | (have e_ := (Kd.S_reads' HO_5.out).1; omega))
                   obtain ⟨ve37_0, rfl, ge37_0⟩ := hM37
                   have hv37 := hcc37 0 _ rfl
                   rw [Nat.add_zero, show ((Kd.slice 3 (Kd.int .i64))).sz = 1 from rfl, Nat.mul_one] at hv37
                   replace hv37 := Option.some.inj (hv37.symm.trans HX337_0.out)
                   subst hv37
                   clear hcc37 hcl37
                   replace ge37_0 := (show Kd.R (Kd.int .i64) 3 _ _ _ _ (rd_L1 x5_2 (rd l1_1 x25_2)) from ge37_0)
                   have HP37 := Kd.R_putg ge37_0 (0 : Int) (wrap64 ((rd (rd_L1 x5_2 (rd l1_1 x25_2)) 0) + (rd l0_1 x25_2)))
                   rw [← Ny340.out] at HP37
                   have HS37 := hbk37 HP37.2 (fun k_ e_ => by injection e_ with e_; subst e_; exact ge37_0.1 _ rfl) (x' := y340) (Kd.M_row HP37.1)
                   rw [← Ny342.out] at HS37
                   have HQ37 := m_ HS37
                   clear HP37 HS37 hbk37 hok37
                   refine start_ (n := 14) (S := fun w' => w'.cell? ⟨gb327, 0, none⟩ = some (.slice A0_0 l0_0.length c0_0) ∧ w'.cell? ⟨gb327, 1, none⟩ = some (.slice (some ad339) l0_1.length c0_1) ∧ w'.cell? ⟨gb327, 2, none⟩ = some (.slice A0_2 l0_2.length c0_2) ∧ w'.cell? ⟨gb327, 3, none⟩ = some (.int .i64 a0_3) ∧ w'.cell? ⟨gb327, 4, none⟩ = some (.int .i64 a0_4) ∧ w'.cell? ⟨gb327, 5, none⟩ = some (.int .i64 a0_5) ∧ w'.cell? ⟨gb327, 6, none⟩ = some (.int .i64 a0_6) ∧ w'.cell? ⟨gb327, 7, none⟩ = some (.int .i64 a0_7) ∧ w'.cell? (ad337.add ((rd l1_1 x25_2)).toNat) = some (.slice (some ⟨go31, 0, none⟩) (rd_L1 x5_2 (rd l1_1 x25_2)).length c337_0) ∧ w'.cell? ⟨go31, 0, none⟩ = some (.int .i64 (rd (rd_L1 x5_2 (rd l1_1 x25_2)) 0)) ∧ w'.cell? (ad339.add (x25_2).toNat) = some (.int .i64 (rd l0_1 x25_2))) (ds := [13]) (tf_ 0 14) (by kernel_rfl) rfl rfl ⟨(blk_cell BK327.out 0).trans rfl, (blk_cell BK327.out 1).trans rfl, (blk_cell BK327.out 2).trans rfl, (blk_cell BK327.out 3).trans rfl, (blk_cell BK327.out 4).trans rfl, (blk_cell BK327.out 5).trans rfl, (blk_cell BK327.out 6).trans rfl, (blk_cell BK327.out 7).trans rfl, hx337_0, hx338_0, ((HB.out.cell (World.block_lt_of_cell? w _ hw339_0)).trans hw339_0)⟩ (fun hHeld => ?_); refine with_tabW impl_tonnesIn.tab11 impl_tonnesIn.bits11 (fun HT_ HW_ => ?_)
                   generalize wr.drew = w36 at HO_5 BK327 BK328 HB GG31 HL337_0 HQ37 HR337_0 HX337_0 hf31_0 hx31_0 hx337_0 hx338_0 hx339_0 hHeld ⊢
                   refine pv_ 0 32 (tf_ 1 14) HT_ ?_
                   refine pv_ 1 33 (tf_ 2 14) HT_ ?_
                   refine pv_ 2 34 (tf_ 3 14) HT_ ?_
                   refine pv_ 6 38 #[true, true, true, false, false, false, true, false, false, false, false, false, false, false] HT_ ?_
                   refine pv_ 8 40 #[true, true, true, false, false, false, true, false, true, false, false, false, false, false] HT_ ?_
                   refine take_ (i := 3) (N := some 35) (v := ?_) (a' := ?_) #[true, true, true, true, false, false, true, false, true, false, false, false, false, false] rfl rfl (take_ofW HT_.out HW_.out (by kernel_rfl)) (fun _ _ _ h => h) (Or.inl ⟨by rfl, ?_⟩) hHeld ?_ ?_
                   rotate_left
                   ·rintro w' ⟨s0, s1, s2, s3, s4, s5, s6, s7, s8, s9, s10⟩
                    go_simp
                    with_reducible rfl
                   rotate_left
                   ·simp only [Act.put, List.setIfInBounds_toArray, List.set_cons_zero, List.set_cons_succ, i64_w, i32_w]
                    rfl
                   refine pv_ 4 36 #[true, true, true, true, true, false, true, false, true, false, false, false, false, false] HT_ ?_
                   refine take_ (i := 5) (N := some 37) (v := ?_) (a' := ?_) #[true, true, true, true, true, true, true, false, true, false, false, false, false, false] rfl rfl (take_ofW HT_.out HW_.out (by kernel_rfl)) (fun _ _ _ h => h) (Or.inl ⟨by rfl, ?_⟩) hHeld ?_ ?_
                   rotate_left
                   ·rintro w' ⟨s0, s1, s2, s3, s4, s5, s6, s7, s8, s9, s10⟩
                    go_simp
                    with_reducible rfl
                   rotate_left
                   ·simp only [Act.put, List.setIfInBounds_toArray, List.set_cons_zero, List.set_cons_succ, i64_w, i32_w]
                    rfl
                   refine take_ (i := 7) (N := some 39) (v := ?_) (a' := ?_) (tf_ 9 14) rfl rfl (take_ofW HT_.out HW_.out (by kernel_rfl)) (fun _ _ _ h => h) (Or.inl ⟨by rfl, ?_⟩) hHeld ?_ ?_
                   rotate_left
                   ·rintro w' ⟨s0, s1, s2, s3, s4, s5, s6, s7, s8, s9, s10⟩
                    go_simp
                    with_reducible rfl
                   rotate_left
                   ·simp only [Act.put, List.setIfInBounds_toArray, List.set_cons_zero, List.set_cons_succ, i64_w, i32_w]
                    rfl
                   refine pv_ 9 41 (tf_ 10 14) HT_ ?_
                   refine take_ (i := 10) (N := some 42) (v := ?_) (a' := ?_) (tf_ 11 14) rfl rfl (take_ofW HT_.out HW_.out (by kernel_rfl)) (fun _ _ _ h => h) (Or.inl ⟨by rfl, ?_⟩) hHeld ?_ ?_
                   rotate_left
                   ·rintro w' ⟨s0, s1, s2, s3, s4, s5, s6, s7, s8, s9, s10⟩
                    go_simp
                    with_reducible rfl
                   rotate_left
                   ·simp only [Act.put, List.setIfInBounds_toArray, List.set_cons_zero, List.set_cons_succ, i64_w, i32_w]
                    rfl
                   refine pv_ 11 43 (tf_ 12 14) HT_ ?_
                   refine pv_ 12 44 (tf_ 13 14) HT_ ?_
                   refine last_ (i := 13) (N := none) (tf_ 14 14) rfl rfl (one_of HT_.out (by kernel_rfl)) (by decide) (fun K hK => ?_)
                   refine skip_ (w1 := ?_) (by rfl) rfl ?_ ?_
                   rotate_left
                   ·go_simp
                    rfl
                   refine hK.out _ _ ?_
                   clear hK K
                   refine done_ (done_of HT_.out (by kernel_rfl)) ?_
                   have hnb39 := NB327_328.out
                   have hnc39 := NB328_327.out
                   obtain ⟨hcz40_0, hcz40_1, hcz40_2, hcz40_3, hcz40_4, hcz40_5, hcz40_6, hcz40_7, hfz40_0, hfz40_1, hfz40_2, hfz40_3, hfz40_4, hfz40_5, hfz40_6, hfz40_7⟩ := cf8x0 BK327.out
                   have p343 : 0 ≤ (x25_2 : Int) := dax0
                   have q343 : x25_2 < (l0_2.length : Int) := dax0
                   obtain ⟨ad343, e343, hx343_0⟩ := Kd.at_int HR0_2.out x25_2 p343 q343
                   cases e343
                   have hn343_0 : ad343.block ≠ go31 := Nat.ne_of_lt (Nat.lt_of_lt_of_le (by have := World.block_lt_of_cell? _ _ hx343_0; first | rwa [add_block] at this | exact this) GB31.out)
                   replace hx343_0 := (HB.out.cell (World.block_lt_of_cell? w _ hx343_0)).trans hx343_0
                   replace hx343_0 := (cell_far (p := ⟨go31, 0, none⟩) (by first | (rw [add_block]; exact hn343_0) | (show (Addr.add _ _).block ≠ _; rw [add_block]; exact hn343_0) | exact hn343_0) (.int .i64 (wrap64 ((rd (rd_L1 x5_2 (rd l1_1 x25_2)) 0) + (rd l0_1 x25_2))))).trans hx343_0
                   clear hn343_0
                   replace p343 := eq_true p343
                   replace q343 := eq_true q343
                   try go_wp2
                   have n0_ : Aside0 (Kd.S (Kd.slice 3 (Kd.int .i64)) 24 (w36.setCell ⟨go31, 0, none⟩ (.int .i64 (wrap64 ((rd (rd_L1 x5_2 (rd l1_1 x25_2)) 0) + (rd l0_1 x25_2))))) w.heap.size (fun _ => True) (.slice (some ad337) x5_2.length co11) y342) := ⟨rSx0 HQ37.out⟩
                   have n1_ : Aside0 ((w36.setCell ⟨go31, 0, none⟩ (.int .i64 (wrap64 ((rd (rd_L1 x5_2 (rd l1_1 x25_2)) 0) + (rd l0_1 x25_2))))).heap[gb327]? = some (.cells #[.slice A0_0 l0_0.length c0_0, .slice (some ad339) l0_1.length c0_1, .slice (some ad343) l0_2.length c0_2, .int .i64 a0_3, .int .i64 a0_4, .int .i64 a0_5, .int .i64 a0_6, .int .i64 a0_7] 45 (0, 0))) := ⟨by (with_reducible repeat (first | refine blk_drewN ?_ _ | refine blk_drew ?_ | refine blk_alloc ?_ _)); refine blk_far ?_ (by have h_ := Kd.R_ne HL337_0.out BK327.out (by decide); intro e_; exact h_ (by rw [e_]; rfl)) _; (with_reducible repeat (first | refine blk_drewN ?_ _ | refine blk_drew ?_ | refine blk_alloc ?_ _)); exact BK327.out⟩
                   have n2_ : Aside0 ((w36.setCell ⟨go31, 0, none⟩ (.int .i64 (wrap64 ((rd (rd_L1 x5_2 (rd l1_1 x25_2)) 0) + (rd l0_1 x25_2))))).heap[gb328]? = some (.cells #[.int .i64 a1_0, .slice (some ad336) l1_1.length c1_1] 47 (0, 0))) := ⟨by (with_reducible repeat (first | refine blk_drewN ?_ _ | refine blk_drew ?_ | refine blk_alloc ?_ _)); refine blk_far ?_ (by have h_ := Kd.R_ne HL337_0.out BK328.out (by decide); intro e_; exact h_ (by rw [e_]; rfl)) _; (with_reducible repeat (first | refine blk_drewN ?_ _ | refine blk_drew ?_ | refine blk_alloc ?_ _)); exact BK328.out⟩
                   have n3_ : Aside0 (Below w.heap.size w (w36.setCell ⟨go31, 0, none⟩ (.int .i64 (wrap64 ((rd (rd_L1 x5_2 (rd l1_1 x25_2)) 0) + (rd l0_1 x25_2)))))) := ⟨be3x0 HB.out GB31.out GE327.out GE328.out⟩
                   (try clear HO_5)
                   (try clear BK327)
                   (try clear BK328)
                   (try clear HB)
                   generalize (w36.setCell ⟨go31, 0, none⟩ (.int .i64 (wrap64 ((rd (rd_L1 x5_2 (rd l1_1 x25_2)) 0) + (rd l0_1 x25_2))))) = w41 at n0_ n1_ n2_ n3_ ⊢
                   have HO_5 := n0_
                   have BK327 := n1_
                   have BK328 := n2_
                   have HB := n3_
                   clear n0_ n1_ n2_ n3_
                   replace HO_5 := m_ (Kd.S_drew HO_5.out)
                   replace BK327 := m_ (blk_drew BK327.out)
                   replace BK328 := m_ (blk_drew BK328.out)
                   replace HB := m_ (below_drew1 HB.out)
                   have p344 : 0 ≤ ((rd l1_1 x25_2) : Int) := dax0
                   have q344 : (rd l1_1 x25_2) < (y342.length : Int) := (by have h_ : ((rd l1_1 x25_2) : Int) < ((x5_2.length : Int) : Int) := dax0; first | (have e_ := (Kd.S_reads' HO_5.out).1; omega) | simpa only [Ny342.out, List.length_set] using h_)
                   have ql344 : (((rd l1_1 x25_2) : Int) < ((x5_2.length : Int) : Int)) = True := eq_true dax0
                   obtain ⟨ad344, A344_0, c344_0, e344, hx344_0, hl344_0, hi344_0⟩ := at_L1 (Kd.S_reads' HO_5.out).2.2 (rd l1_1 x25_2) p344 q344
                   obtain rfl : ad337 = ad344 := (by injection e344)
                   obtain ⟨ce344, hce344, hMe344, hcc344⟩ := Kd.S_get HO_5.out [] (rd l1_1 x25_2) p344 (by first | exact q344 | exact dax0 | (have e_ := (Kd.S_reads' HO_5.out).1; omega))
                   obtain ⟨ve344_0, rfl, ge344_0⟩ := hMe344
                   have hv344_0 := hcc344 0 _ rfl
                   rw [Nat.add_zero, show ((Kd.slice 3 (Kd.int .i64))).sz = 1 from rfl, Nat.mul_one] at hv344_0
                   replace hv344_0 := Option.some.inj (hv344_0.symm.trans hx344_0)
                   rw [hv344_0] at ge344_0
                   have HL344_0 := m_ (show Kd.R (Kd.int .i64) 3 _ _ _ _ (rd_L1 y342 (rd l1_1 x25_2)) from ge344_0)
                   clear hv344_0 ge344_0
                   have HX344_0 := m_ hx344_0
                   clear hcc344 hce344
                   have HR344_0 := m_ hi344_0
                   have HC344_0 := m_ hl344_0
                   clear hi344_0 hl344_0
                   replace p344 := eq_true p344
                   replace q344 := eq_true q344
                   have p345 : 0 ≤ (1 : Int) := (by omega)
                   have q345 : 1 < ((rd_L1 y342 (rd l1_1 x25_2)).length : Int) := dax0
                   obtain ⟨ad345, e345, hx345_0⟩ := Kd.at_int (by repeat (first | (with_reducible exact HR344_0.out) | (with_reducible refine Kd.C_alloc ?_ _) | (with_reducible refine Kd.C_drewN ?_ _) | (with_reducible refine Kd.C_drew ?_) | exact HR344_0.out)) 1 p345 q345
                   cases e345
                   (try simp only [show (1 : Int).toNat = 1 from rfl, Nat.reduceMul, Nat.reduceEqDiff, Go.Addr.add, ↓reduceIte] at hx345_0)
                   have qi345 : (1 < (rd_L1 y342 (rd l1_1 x25_2)).length) = True := eq_true (by omega)
                   (try rw [show ((1 : Int)).toNat = 1 from rfl] at hx345_0)
                   replace p345 := eq_true p345
                   replace q345 := eq_true q345
                   have p346 : 0 ≤ (x25_2 : Int) := dax0
                   have q346 : x25_2 < (l0_1.length : Int) := dax0
                   obtain ⟨ad346, e346, hx346_0⟩ := Kd.at_int HR0_1.out x25_2 p346 q346
                   have hw346_0 := hx346_0
                   obtain rfl : ad339 = ad346 := (by injection e346)
                   replace hx346_0 := (HB.out.cell (World.block_lt_of_cell? w _ hx346_0)).trans hx346_0
                   replace p346 := eq_true p346
                   replace q346 := eq_true q346
                   have p35 : 0 ≤ (1 : Int) := (by omega)
                   have q35 : (1 : Int) < (((rd_L1 y342 (rd l1_1 x25_2)).length : Int) : Int) := dax0
                   have qi35 : (1 < (rd_L1 y342 (rd l1_1 x25_2)).length) = True := eq_true (by omega)
                   obtain ⟨go35, co35, eo35, gb35, gl35, cl35, HG35⟩ := Kd.R_form HL344_0.out (by omega)
                   (first | cases eo35 | (injection eo35 with ea_ en_ ec_; (first | subst ea_ | (injection ea_ with ea_; subst ea_)); subst ec_; clear en_))
                   have GB35 := m_ gb35
                   have GG35 := m_ HG35
                   clear gb35 gl35 HG35
                   (first | simp only [add_plain] at hx345_0 | skip)
                   obtain ⟨hx35_0, hf35_0⟩ := Kd.R_celln 0 HL344_0.out (1 : Int) p35 q35
                   (try rw [show ((1 : Int)).toNat = 1 from rfl] at hx35_0)
                   (try simp only [Nat.reduceMul, Nat.zero_mul, Nat.zero_add, Nat.reduceAdd] at hx35_0)
                   (try rw [show ((1 : Int)).toNat = 1 from rfl] at hf35_0)
                   (try simp only [Nat.reduceMul, Nat.zero_mul, Nat.zero_add, Nat.reduceAdd] at hf35_0)
                   replace p35 := eq_true p35
                   replace q35 := eq_true q35
                   have hq43 : ((rd l1_1 x25_2) : Int) < (y342.length : Int) := (by have h_ : ((rd l1_1 x25_2) : Int) < ((x5_2.length : Int) : Int) := dax0; first | exact h_ | (have e_ := (Kd.S_reads' HO_5.out).1; omega) | simpa only [Ny342.out, List.length_set] using h_)
                   obtain ⟨oki43, ce43, hcl43, hM43, hcc43, hok43, hbk43⟩ := Kd.S_borrow HO_5.out [] ((rd l1_1 x25_2) : Int) dax0 (by first | exact hq43 | exact dax0 | (have e_ := (Kd.S_reads' HO_5.out).1; omega))
                   obtain ⟨ve43_0, rfl, ge43_0⟩ := hM43
                   have hv43 := hcc43 0 _ rfl
                   rw [Nat.add_zero, show ((Kd.slice 3 (Kd.int .i64))).sz = 1 from rfl, Nat.mul_one] at hv43
                   replace hv43 := Option.some.inj (hv43.symm.trans HX344_0.out)
                   subst hv43
                   clear hcc43 hcl43
                   replace ge43_0 := (show Kd.R (Kd.int .i64) 3 _ _ _ _ (rd_L1 y342 (rd l1_1 x25_2)) from ge43_0)
                   have HP43 := Kd.R_putg ge43_0 (1 : Int) (wrap64 ((rd (rd_L1 y342 (rd l1_1 x25_2)) 1) + (rd l0_1 x25_2)))
                   rw [← Ny347.out] at HP43
                   have HS43 := hbk43 HP43.2 (fun k_ e_ => by injection e_ with e_; subst e_; exact ge43_0.1 _ rfl) (x' := y347) (Kd.M_row HP43.1)
                   rw [← Ny349.out] at HS43
                   have HQ43 := m_ HS43
                   clear HP43 HS43 hbk43 hok43
                   refine start_ (n := 14) (S := fun w' => w'.cell? ⟨gb327, 0, none⟩ = some (.slice A0_0 l0_0.length c0_0) ∧ w'.cell? ⟨gb327, 1, none⟩ = some (.slice (some ad339) l0_1.length c0_1) ∧ w'.cell? ⟨gb327, 2, none⟩ = some (.slice (some ad343) l0_2.length c0_2) ∧ w'.cell? ⟨gb327, 3, none⟩ = some (.int .i64 a0_3) ∧ w'.cell? ⟨gb327, 4, none⟩ = some (.int .i64 a0_4) ∧ w'.cell? ⟨gb327, 5, none⟩ = some (.int .i64 a0_5) ∧ w'.cell? ⟨gb327, 6, none⟩ = some (.int .i64 a0_6) ∧ w'.cell? ⟨gb327, 7, none⟩ = some (.int .i64 a0_7) ∧ w'.cell? (ad337.add ((rd l1_1 x25_2)).toNat) = some (.slice (some ⟨go35, 0, none⟩) (rd_L1 y342 (rd l1_1 x25_2)).length c344_0) ∧ w'.cell? ⟨go35, 1, none⟩ = some (.int .i64 (rd (rd_L1 y342 (rd l1_1 x25_2)) 1)) ∧ w'.cell? (ad339.add (x25_2).toNat) = some (.int .i64 (rd l0_1 x25_2))) (ds := [13]) (tf_ 0 14) (by kernel_rfl) rfl rfl ⟨(blk_cell BK327.out 0).trans rfl, (blk_cell BK327.out 1).trans rfl, (blk_cell BK327.out 2).trans rfl, (blk_cell BK327.out 3).trans rfl, (blk_cell BK327.out 4).trans rfl, (blk_cell BK327.out 5).trans rfl, (blk_cell BK327.out 6).trans rfl, (blk_cell BK327.out 7).trans rfl, hx344_0, hx345_0, ((HB.out.cell (World.block_lt_of_cell? w _ hw346_0)).trans hw346_0)⟩ (fun hHeld => ?_); refine with_tabW impl_tonnesIn.tab13 impl_tonnesIn.bits13 (fun HT_ HW_ => ?_)
                   generalize w41.drew = w42 at HO_5 BK327 BK328 HB GG35 HL344_0 HQ37 HQ43 HR344_0 HX344_0 hf35_0 hx344_0 hx345_0 hx346_0 hx35_0 hHeld ⊢
                   refine pv_ 0 51 (tf_ 1 14) HT_ ?_
                   refine pv_ 1 52 (tf_ 2 14) HT_ ?_
                   refine pv_ 2 53 (tf_ 3 14) HT_ ?_
                   refine pv_ 6 57 #[true, true, true, false, false, false, true, false, false, false, false, false, false, false] HT_ ?_
                   refine pv_ 8 59 #[true, true, true, false, false, false, true, false, true, false, false, false, false, false] HT_ ?_
                   refine take_ (i := 3) (N := some 54) (v := ?_) (a' := ?_) #[true, true, true, true, false, false, true, false, true, false, false, false, false, false] rfl rfl (take_ofW HT_.out HW_.out (by kernel_rfl)) (fun _ _ _ h => h) (Or.inl ⟨by rfl, ?_⟩) hHeld ?_ ?_
                   rotate_left
                   ·rintro w' ⟨s0, s1, s2, s3, s4, s5, s6, s7, s8, s9, s10⟩
                    go_simp
                    with_reducible rfl
                   rotate_left
                   ·simp only [Act.put, List.setIfInBounds_toArray, List.set_cons_zero, List.set_cons_succ, i64_w, i32_w]
                    rfl
                   refine pv_ 4 55 #[true, true, true, true, true, false, true, false, true, false, false, false, false, false] HT_ ?_
                   refine take_ (i := 5) (N := some 56) (v := ?_) (a' := ?_) #[true, true, true, true, true, true, true, false, true, false, false, false, false, false] rfl rfl (take_ofW HT_.out HW_.out (by kernel_rfl)) (fun _ _ _ h => h) (Or.inl ⟨by rfl, ?_⟩) hHeld ?_ ?_
                   rotate_left
                   ·rintro w' ⟨s0, s1, s2, s3, s4, s5, s6, s7, s8, s9, s10⟩
                    go_simp
                    with_reducible rfl
                   rotate_left
                   ·simp only [Act.put, List.setIfInBounds_toArray, List.set_cons_zero, List.set_cons_succ, i64_w, i32_w]
                    rfl
                   refine take_ (i := 7) (N := some 58) (v := ?_) (a' := ?_) (tf_ 9 14) rfl rfl (take_ofW HT_.out HW_.out (by kernel_rfl)) (fun _ _ _ h => h) (Or.inl ⟨by rfl, ?_⟩) hHeld ?_ ?_
                   rotate_left
                   ·rintro w' ⟨s0, s1, s2, s3, s4, s5, s6, s7, s8, s9, s10⟩
                    go_simp
                    with_reducible rfl
                   rotate_left
                   ·simp only [Act.put, List.setIfInBounds_toArray, List.set_cons_zero, List.set_cons_succ, i64_w, i32_w]
                    rfl
                   refine pv_ 9 60 (tf_ 10 14) HT_ ?_
                   refine take_ (i := 10) (N := some 61) (v := ?_) (a' := ?_) (tf_ 11 14) rfl rfl (take_ofW HT_.out HW_.out (by kernel_rfl)) (fun _ _ _ h => h) (Or.inl ⟨by rfl, ?_⟩) hHeld ?_ ?_
                   rotate_left
                   ·rintro w' ⟨s0, s1, s2, s3, s4, s5, s6, s7, s8, s9, s10⟩
                    go_simp
                    with_reducible rfl
                   rotate_left
                   ·simp only [Act.put, List.setIfInBounds_toArray, List.set_cons_zero, List.set_cons_succ, i64_w, i32_w]
                    rfl
                   refine pv_ 11 62 (tf_ 12 14) HT_ ?_
                   refine pv_ 12 63 (tf_ 13 14) HT_ ?_
                   refine last_ (i := 13) (N := none) (tf_ 14 14) rfl rfl (one_of HT_.out (by kernel_rfl)) (by decide) (fun K hK => ?_)
                   refine skip_ (w1 := ?_) (by rfl) rfl ?_ ?_
                   rotate_left
                   ·go_simp
                    rfl
                   refine hK.out _ _ ?_
                   clear hK K
                   refine done_ (done_of HT_.out (by kernel_rfl)) ?_
                   try go_wp2
                   (try simp only [← hl5_2])
                   go_roundg k2
                   case measure => have := HK1.out; have := HK2.out; omega
                   case rel => exact ⟨(y349), (wrap64 (x25_2 + 1)), frx0, H', ⟨by have := HK1.out; have := HK2.out; omega⟩, ⟨by (try simp only [hl5_1, hl5_2]); (with_reducible repeat (first | apply Kd.S_alloc | apply Kd.S_drewN | apply Kd.S_drew)); exact HQ43.out⟩, ⟨by (try simp only [hl5_1, hl5_2]); (with_reducible repeat (first | refine blk_drewN ?_ _ | refine blk_drew ?_ | refine blk_alloc ?_ _)); refine blk_far ?_ (by have h_ := Kd.R_ne HL344_0.out BK327.out (by decide); intro e_; exact h_ (by rw [e_]; rfl)) _; (with_reducible repeat (first | refine blk_drewN ?_ _ | refine blk_drew ?_ | refine blk_alloc ?_ _)); exact BK327.out⟩, ⟨by (try simp only [hl5_1, hl5_2]); (with_reducible repeat (first | refine blk_drewN ?_ _ | refine blk_drew ?_ | refine blk_alloc ?_ _)); refine blk_far ?_ (by have h_ := Kd.R_ne HL344_0.out BK328.out (by decide); intro e_; exact h_ (by rw [e_]; rfl)) _; (with_reducible repeat (first | refine blk_drewN ?_ _ | refine blk_drew ?_ | refine blk_alloc ?_ _)); exact BK328.out⟩, ⟨be3x0 HB.out GB35.out GE327.out GE328.out⟩⟩
                  ·rw [if_neg c34] at H
                   exact absurd H (by simp)
                 ·rw [if_neg c33] at H
                  have c33b0 : decide (0 < (rd l0_2 x25_2)) = false := decide_eq_false c33
                  clear c33
                  have H' := m_ H
                  clear H
                  obtain ⟨ad336, rfl, hx336_0, p336, q336⟩ := abx0 HB.out HR1_1.out x25_2
                  try go_wp2
                  replace HO_5 := m_ (Kd.S_drew HO_5.out)
                  replace BK327 := m_ (blk_drew BK327.out)
                  replace BK328 := m_ (blk_drew BK328.out)
                  replace HB := m_ (below_drew1 HB.out)
                  have p337 : 0 ≤ ((rd l1_1 x25_2) : Int) := dax0
                  have q337 : (rd l1_1 x25_2) < (x5_2.length : Int) := dax0
                  obtain ⟨ad337, A337_0, c337_0, e337, hx337_0, hl337_0, hi337_0⟩ := at_L1 (Kd.S_reads' HO_5.out).2.2 (rd l1_1 x25_2) p337 q337
                  cases e337
                  obtain ⟨ce337, hce337, hMe337, hcc337⟩ := Kd.S_get HO_5.out [] (rd l1_1 x25_2) p337 (by first | exact q337 | exact dax0 | (have e_ := (Kd.S_reads' HO_5.out).1; omega))
                  obtain ⟨ve337_0, rfl, ge337_0⟩ := hMe337
                  have hv337_0 := hcc337 0 _ rfl
                  rw [Nat.add_zero, show ((Kd.slice 3 (Kd.int .i64))).sz = 1 from rfl, Nat.mul_one] at hv337_0
                  replace hv337_0 := Option.some.inj (hv337_0.symm.trans hx337_0)
                  rw [hv337_0] at ge337_0
                  have HL337_0 := m_ (show Kd.R (Kd.int .i64) 3 _ _ _ _ (rd_L1 x5_2 (rd l1_1 x25_2)) from ge337_0)
                  clear hv337_0 ge337_0
                  have HX337_0 := m_ hx337_0
                  clear hcc337 hce337
                  have HR337_0 := m_ hi337_0
                  have HC337_0 := m_ hl337_0
                  clear hi337_0 hl337_0
                  replace p337 := eq_true p337
                  replace q337 := eq_true q337
                  have p338 : 0 ≤ (0 : Int) := (by omega)
                  have q338 : 0 < ((rd_L1 x5_2 (rd l1_1 x25_2)).length : Int) := dax0
                  obtain ⟨ad338, e338, hx338_0⟩ := Kd.at_int (by repeat (first | (with_reducible exact HR337_0.out) | (with_reducible refine Kd.C_alloc ?_ _) | (with_reducible refine Kd.C_drewN ?_ _) | (with_reducible refine Kd.C_drew ?_) | exact HR337_0.out)) 0 p338 q338
                  cases e338
                  have qi338 : (0 < (rd_L1 x5_2 (rd l1_1 x25_2)).length) = True := eq_true (by omega)
                  (try rw [show ((0 : Int)).toNat = 0 from rfl] at hx338_0)
                  (try rw [Addr.add_zero'] at hx338_0)
                  replace p338 := eq_true p338
                  replace q338 := eq_true q338
                  have p339 : 0 ≤ (x25_2 : Int) := dax0
                  have q339 : x25_2 < (l0_1.length : Int) := dax0
                  obtain ⟨ad339, e339, hx339_0⟩ := Kd.at_int HR0_1.out x25_2 p339 q339
                  have hw339_0 := hx339_0
                  cases e339
                  replace hx339_0 := (HB.out.cell (World.block_lt_of_cell? w _ hx339_0)).trans hx339_0
                  replace p339 := eq_true p339
                  replace q339 := eq_true q339
                  have p31 : 0 ≤ (0 : Int) := (by omega)
                  have q31 : (0 : Int) < (((rd_L1 x5_2 (rd l1_1 x25_2)).length : Int) : Int) := dax0
                  have qi31 : (0 < (rd_L1 x5_2 (rd l1_1 x25_2)).length) = True := eq_true (by omega)
                  obtain ⟨go31, co31, eo31, gb31, gl31, cl31, HG31⟩ := Kd.R_form HL337_0.out (by omega)
                  (first | cases eo31 | (injection eo31 with ea_ en_ ec_; (first | subst ea_ | (injection ea_ with ea_; subst ea_)); subst ec_; clear en_))
                  have GB31 := m_ gb31
                  have GG31 := m_ HG31
                  clear gb31 gl31 HG31
                  (first | simp only [add_plain] at hx338_0 | skip)
                  obtain ⟨hx31_0, hf31_0⟩ := Kd.R_celln 0 HL337_0.out (0 : Int) p31 q31
                  (try rw [show ((0 : Int)).toNat = 0 from rfl] at hx31_0)
                  (try simp only [Nat.reduceMul, Nat.zero_mul, Nat.zero_add, Nat.reduceAdd] at hx31_0)
                  (try rw [show ((0 : Int)).toNat = 0 from rfl] at hf31_0)
                  (try simp only [Nat.reduceMul, Nat.zero_mul, Nat.zero_add, Nat.reduceAdd] at hf31_0)
                  replace p31 := eq_true p31
                  replace q31 := eq_true q31
                  have hq46 : ((rd l1_1 x25_2) : Int) < (x5_2.length : Int) := (by have h_ : ((rd l1_1 x25_2) : Int) < ((x5_2.length : Int) : Int) := dax0; first | exact h_ | (have e_ := (Kd.S_reads' HO_5.out).1; omega) | simpa only [List.length_set, List.length_set] using h_)
                  obtain ⟨oki46, ce46, hcl46, hM46, hcc46, hok46, hbk46⟩ := Kd.S_borrow HO_5.out [] ((rd l1_1 x25_2) : Int) dax0 (by first | exact hq46 | exact dax0 | (have e_ := (Kd.S_reads' HO_5.out).1; omega))
                  obtain ⟨ve46_0, rfl, ge46_0⟩ := hM46
                  have hv46 := hcc46 0 _ rfl
                  rw [Nat.add_zero, show ((Kd.slice 3 (Kd.int .i64))).sz = 1 from rfl, Nat.mul_one] at hv46
                  replace hv46 := Option.some.inj (hv46.symm.trans HX337_0.out)
                  subst hv46
                  clear hcc46 hcl46
                  replace ge46_0 := (show Kd.R (Kd.int .i64) 3 _ _ _ _ (rd_L1 x5_2 (rd l1_1 x25_2)) from ge46_0)
                  have HP46 := Kd.R_putg ge46_0 (0 : Int) (wrap64 ((rd (rd_L1 x5_2 (rd l1_1 x25_2)) 0) + (rd l0_1 x25_2)))
                  rw [← Ny340.out] at HP46
                  have HS46 := hbk46 HP46.2 (fun k_ e_ => by injection e_ with e_; subst e_; exact ge46_0.1 _ rfl) (x' := y340) (Kd.M_row HP46.1)
                  rw [← Ny342.out] at HS46
                  have HQ46 := m_ HS46
                  clear HP46 HS46 hbk46 hok46
                  refine start_ (n := 14) (S := fun w' => w'.cell? ⟨gb327, 0, none⟩ = some (.slice A0_0 l0_0.length c0_0) ∧ w'.cell? ⟨gb327, 1, none⟩ = some (.slice (some ad339) l0_1.length c0_1) ∧ w'.cell? ⟨gb327, 2, none⟩ = some (.slice A0_2 l0_2.length c0_2) ∧ w'.cell? ⟨gb327, 3, none⟩ = some (.int .i64 a0_3) ∧ w'.cell? ⟨gb327, 4, none⟩ = some (.int .i64 a0_4) ∧ w'.cell? ⟨gb327, 5, none⟩ = some (.int .i64 a0_5) ∧ w'.cell? ⟨gb327, 6, none⟩ = some (.int .i64 a0_6) ∧ w'.cell? ⟨gb327, 7, none⟩ = some (.int .i64 a0_7) ∧ w'.cell? (ad337.add ((rd l1_1 x25_2)).toNat) = some (.slice (some ⟨go31, 0, none⟩) (rd_L1 x5_2 (rd l1_1 x25_2)).length c337_0) ∧ w'.cell? ⟨go31, 0, none⟩ = some (.int .i64 (rd (rd_L1 x5_2 (rd l1_1 x25_2)) 0)) ∧ w'.cell? (ad339.add (x25_2).toNat) = some (.int .i64 (rd l0_1 x25_2))) (ds := [13]) (tf_ 0 14) (by kernel_rfl) rfl rfl ⟨(blk_cell BK327.out 0).trans rfl, (blk_cell BK327.out 1).trans rfl, (blk_cell BK327.out 2).trans rfl, (blk_cell BK327.out 3).trans rfl, (blk_cell BK327.out 4).trans rfl, (blk_cell BK327.out 5).trans rfl, (blk_cell BK327.out 6).trans rfl, (blk_cell BK327.out 7).trans rfl, hx337_0, hx338_0, ((HB.out.cell (World.block_lt_of_cell? w _ hw339_0)).trans hw339_0)⟩ (fun hHeld => ?_); refine with_tabW impl_tonnesIn.tab11 impl_tonnesIn.bits11 (fun HT_ HW_ => ?_)
                  generalize wr.drew = w45 at HO_5 BK327 BK328 HB GG31 HL337_0 HQ46 HR337_0 HX337_0 hf31_0 hx31_0 hx337_0 hx338_0 hx339_0 hHeld ⊢
                  refine pv_ 0 32 (tf_ 1 14) HT_ ?_
                  refine pv_ 1 33 (tf_ 2 14) HT_ ?_
                  refine pv_ 2 34 (tf_ 3 14) HT_ ?_
                  refine pv_ 6 38 #[true, true, true, false, false, false, true, false, false, false, false, false, false, false] HT_ ?_
                  refine pv_ 8 40 #[true, true, true, false, false, false, true, false, true, false, false, false, false, false] HT_ ?_
                  refine take_ (i := 3) (N := some 35) (v := ?_) (a' := ?_) #[true, true, true, true, false, false, true, false, true, false, false, false, false, false] rfl rfl (take_ofW HT_.out HW_.out (by kernel_rfl)) (fun _ _ _ h => h) (Or.inl ⟨by rfl, ?_⟩) hHeld ?_ ?_
                  rotate_left
                  ·rintro w' ⟨s0, s1, s2, s3, s4, s5, s6, s7, s8, s9, s10⟩
                   go_simp
                   with_reducible rfl
                  rotate_left
                  ·simp only [Act.put, List.setIfInBounds_toArray, List.set_cons_zero, List.set_cons_succ, i64_w, i32_w]
                   rfl
                  refine pv_ 4 36 #[true, true, true, true, true, false, true, false, true, false, false, false, false, false] HT_ ?_
                  refine take_ (i := 5) (N := some 37) (v := ?_) (a' := ?_) #[true, true, true, true, true, true, true, false, true, false, false, false, false, false] rfl rfl (take_ofW HT_.out HW_.out (by kernel_rfl)) (fun _ _ _ h => h) (Or.inl ⟨by rfl, ?_⟩) hHeld ?_ ?_
                  rotate_left
                  ·rintro w' ⟨s0, s1, s2, s3, s4, s5, s6, s7, s8, s9, s10⟩
                   go_simp
                   with_reducible rfl
                  rotate_left
                  ·simp only [Act.put, List.setIfInBounds_toArray, List.set_cons_zero, List.set_cons_succ, i64_w, i32_w]
                   rfl
                  refine take_ (i := 7) (N := some 39) (v := ?_) (a' := ?_) (tf_ 9 14) rfl rfl (take_ofW HT_.out HW_.out (by kernel_rfl)) (fun _ _ _ h => h) (Or.inl ⟨by rfl, ?_⟩) hHeld ?_ ?_
                  rotate_left
                  ·rintro w' ⟨s0, s1, s2, s3, s4, s5, s6, s7, s8, s9, s10⟩
                   go_simp
                   with_reducible rfl
                  rotate_left
                  ·simp only [Act.put, List.setIfInBounds_toArray, List.set_cons_zero, List.set_cons_succ, i64_w, i32_w]
                   rfl
                  refine pv_ 9 41 (tf_ 10 14) HT_ ?_
                  refine take_ (i := 10) (N := some 42) (v := ?_) (a' := ?_) (tf_ 11 14) rfl rfl (take_ofW HT_.out HW_.out (by kernel_rfl)) (fun _ _ _ h => h) (Or.inl ⟨by rfl, ?_⟩) hHeld ?_ ?_
                  rotate_left
                  ·rintro w' ⟨s0, s1, s2, s3, s4, s5, s6, s7, s8, s9, s10⟩
                   go_simp
                   with_reducible rfl
                  rotate_left
                  ·simp only [Act.put, List.setIfInBounds_toArray, List.set_cons_zero, List.set_cons_succ, i64_w, i32_w]
                   rfl
                  refine pv_ 11 43 (tf_ 12 14) HT_ ?_
                  refine pv_ 12 44 (tf_ 13 14) HT_ ?_
                  refine last_ (i := 13) (N := none) (tf_ 14 14) rfl rfl (one_of HT_.out (by kernel_rfl)) (by decide) (fun K hK => ?_)
                  refine skip_ (w1 := ?_) (by rfl) rfl ?_ ?_
                  rotate_left
                  ·go_simp
                   rfl
                  refine hK.out _ _ ?_
                  clear hK K
                  refine done_ (done_of HT_.out (by kernel_rfl)) ?_
                  have hnb48 := NB327_328.out
                  have hnc48 := NB328_327.out
                  obtain ⟨hcz49_0, hcz49_1, hcz49_2, hcz49_3, hcz49_4, hcz49_5, hcz49_6, hcz49_7, hfz49_0, hfz49_1, hfz49_2, hfz49_3, hfz49_4, hfz49_5, hfz49_6, hfz49_7⟩ := cf8x0 BK327.out
                  have p343 : 0 ≤ (x25_2 : Int) := dax0
                  have q343 : x25_2 < (l0_2.length : Int) := dax0
                  obtain ⟨ad343, e343, hx343_0⟩ := Kd.at_int HR0_2.out x25_2 p343 q343
                  cases e343
                  have hn343_0 : ad343.block ≠ go31 := Nat.ne_of_lt (Nat.lt_of_lt_of_le (by have := World.block_lt_of_cell? _ _ hx343_0; first | rwa [add_block] at this | exact this) GB31.out)
                  replace hx343_0 := (HB.out.cell (World.block_lt_of_cell? w _ hx343_0)).trans hx343_0
                  replace hx343_0 := (cell_far (p := ⟨go31, 0, none⟩) (by first | (rw [add_block]; exact hn343_0) | (show (Addr.add _ _).block ≠ _; rw [add_block]; exact hn343_0) | exact hn343_0) (.int .i64 (wrap64 ((rd (rd_L1 x5_2 (rd l1_1 x25_2)) 0) + (rd l0_1 x25_2))))).trans hx343_0
                  clear hn343_0
                  replace p343 := eq_true p343
                  replace q343 := eq_true q343
                  try go_wp2
                  (try simp only [← hl5_2])
                  go_roundg k2
                  case measure => have := HK1.out; have := HK2.out; omega
                  case rel => exact ⟨(y342), (wrap64 (x25_2 + 1)), frx0, H', ⟨by have := HK1.out; have := HK2.out; omega⟩, ⟨by (try simp only [hl5_1, hl5_2]); (with_reducible repeat (first | apply Kd.S_alloc | apply Kd.S_drewN | apply Kd.S_drew)); exact HQ46.out⟩, ⟨by (try simp only [hl5_1, hl5_2]); (with_reducible repeat (first | refine blk_drewN ?_ _ | refine blk_drew ?_ | refine blk_alloc ?_ _)); refine blk_far ?_ (by have h_ := Kd.R_ne HL337_0.out BK327.out (by decide); intro e_; exact h_ (by rw [e_]; rfl)) _; (with_reducible repeat (first | refine blk_drewN ?_ _ | refine blk_drew ?_ | refine blk_alloc ?_ _)); exact BK327.out⟩, ⟨by (try simp only [hl5_1, hl5_2]); (with_reducible repeat (first | refine blk_drewN ?_ _ | refine blk_drew ?_ | refine blk_alloc ?_ _)); refine blk_far ?_ (by have h_ := Kd.R_ne HL337_0.out BK328.out (by decide); intro e_; exact h_ (by rw [e_]; rfl)) _; (with_reducible repeat (first | refine blk_drewN ?_ _ | refine blk_drew ?_ | refine blk_alloc ?_ _)); exact BK328.out⟩, ⟨be3x0 HB.out GB31.out GE327.out GE328.out⟩⟩
                ·rw [if_neg c32] at H
                 exact absurd H (by simp)
               ·rw [if_neg c30] at H
                exact absurd H (by simp)
              ·rw [if_neg c29] at H
               exact absurd H (by simp)
             ·rw [if_neg c28] at H
              exact absurd H (by simp)
            ·rw [if_neg c27] at H
             exact absurd H (by simp)
          ·rw [if_neg c25] at H
           exact absurd H (by simp)
         ·rw [if_neg c24] at H
          exact absurd H (by simp)
        ·rw [if_neg c23] at H
         have c23b0 := decide_eq_false c23
         have c23b9 := c23b0
         (try simp only [hl5_1] at c23b9)
         (try simp only [hl5_2] at c23b9)
         clear c23
         obtain rfl := Option.some.inj H
         go_wp2
         go_ret
         exact ⟨_, by first | rfl | (simp [errW_none, errW_some] <;> rfl) | (simp [*, errW_none, errW_some] <;> rfl), rSx0 HO_5.out, be2x0 HB.out GE327.out GE328.out⟩
  ·rw [if_neg c4] at H
   exact absurd H (by simp)
 ·rw [if_neg c3] at H
  exact absurd H (by simp)

end Go.Proofs.Ytloddihakhgcdaa.PFnExactDestinationSums
