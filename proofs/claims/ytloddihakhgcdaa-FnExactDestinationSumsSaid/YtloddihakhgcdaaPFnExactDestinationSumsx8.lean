/- This text is this session's own, not the print's: programs (wip/squeeze.py and others) made it out of what print.sh, or wip/ownprint.py, had written (BYTES set higher), its facts said by short words. -/
import Derived.Test.YtloddihakhgcdaaPFnExactDestinationSumsx0
import Derived.Test.YtloddihakhgcdaaPFnExactDestinationSumsx7
import Derived.Test.YtloddihakhgcdaaPFnExactDestinationSumswx0
namespace Go.Proofs.Ytloddihakhgcdaa.PFnExactDestinationSums
open Go.RowKit Go.Proofs.YtloddihakhgcdaaW.PrintWords Go.Proofs.YtloddihakhgcdaaW.PrintLast Go.Proofs.YtloddihakhgcdaaW.PrintMore
attribute [local go_sem] max2_int min2_int max_two min_two max_three min_three max_four min_four   -- for this text's walks alone
set_option linter.unusedVariables false
set_option linter.unusedSimpArgs false

/-! ### impl_IsModel: function 67 -/
mutual
def impl_IsModel.j0 : Nat → Int → Bool → Int → Int → Int → List Int → List Int → List Int → Option (Bool)
 | 0, _, _, _, _, _, _, _, _ => none
 | k + 1, x3, x30, x291000, x291001, x291002, x291003, x291004, x291005 => if x30 = true then (some false) else (impl_IsModel.l0 k x3 0 x291000 x291001 x291002 x291003 x291004 x291005)
def impl_IsModel.l0 : Nat → Int → Int → Int → Int → Int → List Int → List Int → List Int → Option (Bool)
 | 0, _, _, _, _, _, _, _, _ => none
 | k + 1, x31, x32, x291000, x291001, x291002, x291003, x291004, x291005 => if x32 < x31 then (if 0 ≤ x32 then (if x32 < (x291003.length : Int) then (if (rd x291003 x32) < 0 then (some false) else (if (rd x291003 x32) > 10000 then (some false) else (if x32 < (x291004.length : Int) then (if (rd x291004 x32) < 0 then (some false) else (if (rd x291004 x32) > 1000 then (some false) else (if x32 < (x291005.length : Int) then (if (rd x291005 x32) < 0 then (some false) else (if (rd x291005 x32) > 4 then (some false) else (impl_IsModel.l0 k x31 (wrap64 (x32 + 1)) x291000 x291001 x291002 x291003 x291004 x291005))) else (none)))) else (none)))) else (none)) else (none)) else (some true)
end
def impl_IsModel.f (k : Nat) (a0_0 : Int) (a0_1 : Int) (a0_2 : Int) (l0_3 : List Int) (l0_4 : List Int) (l0_5 : List Int) : Option (Bool) := (impl_IsGrid.f a0_0 a0_1 a0_2).bind fun t291 => (if t291 = true then ((impl_blocksOf.f a0_0 a0_1 a0_2).bind fun t292 => (if (l0_3.length : Int) = t292 then (if (l0_4.length : Int) = t292 then (impl_IsModel.j0 k t292 ((l0_5.length : Int) != t292) a0_0 a0_1 a0_2 l0_3 l0_4 l0_5) else (impl_IsModel.j0 k t292 true a0_0 a0_1 a0_2 l0_3 l0_4 l0_5)) else (impl_IsModel.j0 k t292 true a0_0 a0_1 a0_2 l0_3 l0_4 l0_5))) else (some false))
theorem impl_IsModel.mono_l : ∀ k, (∀ y0 y1 y2 y3 y4 y5 y6 y7, LeO (impl_IsModel.j0 k y0 y1 y2 y3 y4 y5 y6 y7) (impl_IsModel.j0 (k + 1) y0 y1 y2 y3 y4 y5 y6 y7)) ∧ (∀ y0 y1 y2 y3 y4 y5 y6 y7, LeO (impl_IsModel.l0 k y0 y1 y2 y3 y4 y5 y6 y7) (impl_IsModel.l0 (k + 1) y0 y1 y2 y3 y4 y5 y6 y7))
 | 0 => ⟨fun _ _ _ _ _ _ _ _ r h => by simp [impl_IsModel.j0] at h, fun _ _ _ _ _ _ _ _ r h => by simp [impl_IsModel.l0] at h⟩
 | k + 1 => by
  obtain ⟨ih0, ih1⟩ := impl_IsModel.mono_l k
  refine ⟨?_, ?_⟩
  ·intro y0 y1 y2 y3 y4 y5 y6 y7
   unfold impl_IsModel.j0
   repeat' first
   | (with_reducible exact ih0 _ _ _ _ _ _ _ _)
   | (with_reducible exact ih1 _ _ _ _ _ _ _ _)
   | (with_reducible exact LeO.refl _)
   | (with_reducible exact LeO.none _)
   | (with_reducible refine LeO.ite ?_ ?_)
   | (with_reducible refine LeO.bind ?_ (fun _ => ?_))
   | exact ih0 _ _ _ _ _ _ _ _
   | exact ih1 _ _ _ _ _ _ _ _
   | exact LeO.none _
   | refine LeO.ite ?_ ?_
   | refine LeO.bind ?_ (fun _ => ?_)
  ·intro y0 y1 y2 y3 y4 y5 y6 y7
   unfold impl_IsModel.l0
   repeat' first
   | (with_reducible exact ih0 _ _ _ _ _ _ _ _)
   | (with_reducible exact ih1 _ _ _ _ _ _ _ _)
   | (with_reducible exact LeO.refl _)
   | (with_reducible exact LeO.none _)
   | (with_reducible refine LeO.ite ?_ ?_)
   | (with_reducible refine LeO.bind ?_ (fun _ => ?_))
   | exact ih0 _ _ _ _ _ _ _ _
   | exact ih1 _ _ _ _ _ _ _ _
   | exact LeO.none _
   | refine LeO.ite ?_ ?_
   | refine LeO.bind ?_ (fun _ => ?_)
theorem impl_IsModel.mono : ∀ a0 a1 a2 a3 a4 a5 k, LeO (impl_IsModel.f k a0 a1 a2 a3 a4 a5) (impl_IsModel.f (k + 1) a0 a1 a2 a3 a4 a5) := by
 intro a0 a1 a2 a3 a4 a5 k
 obtain ⟨ih0, ih1⟩ := impl_IsModel.mono_l k
 unfold impl_IsModel.f
 repeat' first
   | (with_reducible exact ih0 _ _ _ _ _ _ _ _)
   | (with_reducible exact ih1 _ _ _ _ _ _ _ _)
   | (with_reducible exact LeO.refl _)
   | (with_reducible exact LeO.none _)
   | (with_reducible refine LeO.ite ?_ ?_)
   | (with_reducible refine LeO.bind ?_ (fun _ => ?_))
   | exact ih0 _ _ _ _ _ _ _ _
   | exact ih1 _ _ _ _ _ _ _ _
   | exact LeO.none _
   | refine LeO.ite ?_ ?_
   | refine LeO.bind ?_ (fun _ => ?_)
set_option maxHeartbeats 8000000 in
set_option maxRecDepth 100000 in
theorem impl_IsModel.calls (k : Nat) (a0_0 : Int) (a0_1 : Int) (a0_2 : Int) (A0_3 : Option Addr) (c0_3 : Nat) (l0_3 : List Int) (A0_4 : Option Addr) (c0_4 : Nat) (l0_4 : List Int) (A0_5 : Option Addr) (c0_5 : Nat) (l0_5 : List Int) (r : Bool) (w : World) (hr0_3 : Kd.C (Kd.int .i64) w A0_3 l0_3.length l0_3) (hc0_3 : l0_3.length ≤ c0_3) (hr0_4 : Kd.C (Kd.int .i64) w A0_4 l0_4.length l0_4) (hc0_4 : l0_4.length ≤ c0_4) (hr0_5 : Kd.C (Kd.int .i64) w A0_5 l0_5.length l0_5) (hc0_5 : l0_5.length ≤ c0_5) (h : impl_IsModel.f k a0_0 a0_1 a0_2 l0_3 l0_4 l0_5 = some r) :
  Calls Try.prog 67 #[.agg #[.int .i64 a0_0, .int .i64 a0_1, .int .i64 a0_2, .slice A0_3 l0_3.length c0_3, .slice A0_4 l0_4.length c0_4, .slice A0_5 l0_5.length c0_5]] w fun e w' => e = .returned (.bool r) ∧ Below w.heap.size w w' := by
 have hu41 := Try.underlying41
 have hu39 := Try.underlying39
 have HR0_3 := m_ hr0_3
 have HC0_3 := m_ hc0_3
 clear hr0_3 hc0_3
 have HR0_4 := m_ hr0_4
 have HC0_4 := m_ hc0_4
 clear hr0_4 hc0_4
 have HR0_5 := m_ hr0_5
 have HC0_5 := m_ hc0_5
 clear hr0_5 hc0_5
 have HB := m_ (Below.refl w.heap.size w)
 have H : ((impl_IsGrid.f a0_0 a0_1 a0_2).bind fun t291 => (if t291 = true then ((impl_blocksOf.f a0_0 a0_1 a0_2).bind fun t292 => (if (l0_3.length : Int) = t292 then (if (l0_4.length : Int) = t292 then (impl_IsModel.j0 k t292 ((l0_5.length : Int) != t292) a0_0 a0_1 a0_2 l0_3 l0_4 l0_5) else (impl_IsModel.j0 k t292 true a0_0 a0_1 a0_2 l0_3 l0_4 l0_5)) else (impl_IsModel.j0 k t292 true a0_0 a0_1 a0_2 l0_3 l0_4 l0_5))) else (some false))) = some r := h
 clear h
 replace H := Option.bind_eq_some_iff.mp H
 obtain ⟨t291, A20, H⟩ := H
 have A2 := m_ A20
 clear A20
 by_cases c3 : t291 = true
 ·subst c3
  have H1 : ((impl_blocksOf.f a0_0 a0_1 a0_2).bind fun t292 => (if (l0_3.length : Int) = t292 then (if (l0_4.length : Int) = t292 then (impl_IsModel.j0 k t292 ((l0_5.length : Int) != t292) a0_0 a0_1 a0_2 l0_3 l0_4 l0_5) else (impl_IsModel.j0 k t292 true a0_0 a0_1 a0_2 l0_3 l0_4 l0_5)) else (impl_IsModel.j0 k t292 true a0_0 a0_1 a0_2 l0_3 l0_4 l0_5))) = some r := by rw [if_pos rfl] at H; exact H
  clear H
  have H := H1
  clear H1
  replace H := Option.bind_eq_some_iff.mp H
  obtain ⟨t292, A40, H⟩ := H
  have A4 := m_ A40
  clear A40
  have HC5 := m_ H
  clear H
  go_enter Try.func67, Try.ntmps67
  go_upto_region 4 with (first | ((with_reducible refine gate_dst (N := 1) rfl ?_); (try (refine gate_guard (by rfl) ?_; dsimp only)); refine bxx0 1 41 #[.int .i64 a0_0, .int .i64 a0_1, .int .i64 a0_2, .slice A0_3 l0_3.length c0_3, .slice A0_4 l0_4.length c0_4, .slice A0_5 l0_5.length c0_5] (be0x0 HB.out) (below_size (be0x0 HB.out)) ?_; clear HB; intro gb290 w6 BK290 HB GE290 hb hg; clear hb hg; obtain ⟨hcz7_0, hcz7_1, hcz7_2, hcz7_3, hcz7_4, hcz7_5, hfz7_0, hfz7_1, hfz7_2, hfz7_3, hfz7_4, hfz7_5⟩ := cf6x0 BK290.out) | ((with_reducible refine gate_callee (f := 87) rfl ?_); refine gLx0 (some 7) Try.func87 #[.agg #[.int .i64 a0_0, .int .i64 a0_1, .int .i64 a0_2]] ?_; (with_reducible refine (impl_IsGrid.calls a0_0 a0_1 a0_2 true _ A2.out).mono ?_); rintro e w8 ⟨rfl, hb⟩; refine ⟨_, rfl, ?_⟩; replace BK290 := kbx0 BK290 hb; replace HB := m_ (below_step (be1x0 HB.out GE290.out) hb); (try clear hb); (try clear hb2); (try clear hk); (try clear hi); obtain ⟨hcz9_0, hcz9_1, hcz9_2, hcz9_3, hcz9_4, hcz9_5, hfz9_0, hfz9_1, hfz9_2, hfz9_3, hfz9_4, hfz9_5⟩ := cf6x0 BK290.out) | ((with_reducible refine gate_callee (f := 88) rfl ?_); refine gLx0 (some 11) Try.func88 #[.agg #[.int .i64 a0_0, .int .i64 a0_1, .int .i64 a0_2]] ?_; (with_reducible refine (impl_blocksOf.calls a0_0 a0_1 a0_2 t292 _ A4.out).mono ?_); rintro e w10 ⟨rfl, hb⟩; refine ⟨_, rfl, ?_⟩; replace BK290 := kbx0 BK290 hb; replace HB := m_ (below_step (be1x0 HB.out GE290.out) hb); (try clear hb); (try clear hb2); (try clear hk); (try clear hi)))
  (try simp only [Act.put, List.setIfInBounds_toArray, List.set_cons_zero, List.set_cons_succ])
  go_cut [30] (fun v30 wc => ∃ (kq : Nat) (x30_4 : Bool), v30 = .bool x30_4 ∧ Aside0 (impl_IsModel.j0 kq t292 x30_4 a0_0 a0_1 a0_2 l0_3 l0_4 l0_5 = some r) ∧ Aside0 (kq ≤ k) ∧ Aside0 (wc.heap[gb290]? = some (.cells #[.int .i64 a0_0, .int .i64 a0_1, .int .i64 a0_2, (.slice A0_3 l0_3.length c0_3), (.slice A0_4 l0_4.length c0_4), (.slice A0_5 l0_5.length c0_5)] 41 (0, 0))) ∧ Aside0 (Below w.heap.size w wc))
  case first =>
   have H := HC5.out
   clear HC5
   by_cases c11 : (l0_3.length : Int) = t292
   ·rw [if_pos c11] at H
    have c11b0 : ((l0_3.length : Int) == t292) = true := beq_iff_eq.mpr c11
    have c11b1 : ((l0_3.length : Int) != t292) = false := bne_eq_false_iff_eq.mpr c11
    clear c11
    (first | rw [c11b0] | (simp only [i64_w, i32_w]; rw [c11b0]) | skip)
    by_cases c12 : (l0_4.length : Int) = t292
    ·rw [if_pos c12] at H
     have c12b0 : ((l0_4.length : Int) == t292) = true := beq_iff_eq.mpr c12
     have c12b1 : ((l0_4.length : Int) != t292) = false := bne_eq_false_iff_eq.mpr c12
     clear c12
     have H' := m_ H
     clear H
     obtain ⟨hcz13_0, hcz13_1, hcz13_2, hcz13_3, hcz13_4, hcz13_5, hfz13_0, hfz13_1, hfz13_2, hfz13_3, hfz13_4, hfz13_5⟩ := cf6x0 BK290.out
     go_wp2
     go_meet
     case rel => exact ⟨_, (((l0_5.length : Int) != t292)), frx0, H', ⟨by first | omega | exact Nat.le_refl _⟩, ⟨rBx0 BK290.out⟩, ⟨be1x0 HB.out GE290.out⟩⟩
    ·rw [if_neg c12] at H
     have c12b0 : ((l0_4.length : Int) == t292) = false := beq_eq_false_iff_ne.mpr c12
     have c12b1 : ((l0_4.length : Int) != t292) = true := bne_iff_ne.mpr c12
     have H' := m_ H
     clear H
     obtain ⟨hcz14_0, hcz14_1, hcz14_2, hcz14_3, hcz14_4, hcz14_5, hfz14_0, hfz14_1, hfz14_2, hfz14_3, hfz14_4, hfz14_5⟩ := cf6x0 BK290.out
     go_wp2
     go_meet
     case rel => exact ⟨_, (true), frx0, H', ⟨by first | omega | exact Nat.le_refl _⟩, ⟨rBx0 BK290.out⟩, ⟨be1x0 HB.out GE290.out⟩⟩
   ·rw [if_neg c11] at H
    have c11b0 : ((l0_3.length : Int) == t292) = false := beq_eq_false_iff_ne.mpr c11
    have c11b1 : ((l0_3.length : Int) != t292) = true := bne_iff_ne.mpr c11
    (first | rw [c11b0] | (simp only [i64_w, i32_w]; rw [c11b0]) | skip)
    have H' := m_ H
    clear H
    obtain ⟨hcz15_0, hcz15_1, hcz15_2, hcz15_3, hcz15_4, hcz15_5, hfz15_0, hfz15_1, hfz15_2, hfz15_3, hfz15_4, hfz15_5⟩ := cf6x0 BK290.out
    go_wp2
    go_meet
    case rel => exact ⟨_, (true), frx0, H', ⟨by first | omega | exact Nat.le_refl _⟩, ⟨rBx0 BK290.out⟩, ⟨be1x0 HB.out GE290.out⟩⟩
  case rest =>
   clear HC5
   try clear c3; try clear c11; try clear c11b0; try clear c11b1; try clear c12; try clear c12b0; try clear c12b1; try clear hcz13_0 hcz13_1 hcz13_2 hcz13_3 hcz13_4 hcz13_5; try clear hcz14_0 hcz14_1 hcz14_2 hcz14_3 hcz14_4 hcz14_5; try clear hcz15_0 hcz15_1 hcz15_2 hcz15_3 hcz15_4 hcz15_5; try clear hcz7_0 hcz7_1 hcz7_2 hcz7_3 hcz7_4 hcz7_5; try clear hcz9_0 hcz9_1 hcz9_2 hcz9_3 hcz9_4 hcz9_5; try clear hfz13_0 hfz13_1 hfz13_2 hfz13_3 hfz13_4 hfz13_5; try clear hfz14_0 hfz14_1 hfz14_2 hfz14_3 hfz14_4 hfz14_5; try clear hfz15_0 hfz15_1 hfz15_2 hfz15_3 hfz15_4 hfz15_5; try clear hfz7_0 hfz7_1 hfz7_2 hfz7_3 hfz7_4 hfz7_5; try clear hfz9_0 hfz9_1 hfz9_2 hfz9_3 hfz9_4 hfz9_5
   obtain ⟨kq, x30_4, rfl, HA, HJ4, BK290, HB⟩ := hcut
   cases kq with
   | zero => exact absurd HA.out (by simp [impl_IsModel.j0])
   | succ kj4 =>
    have H := HA.out
    clear HA
    simp only [impl_IsModel.j0] at H
    by_cases c16 : x30_4 = true
    ·subst c16
     have H1 : (some false) = some r := by rw [if_pos rfl] at H; exact H
     clear H
     have H := H1
     clear H1
     obtain rfl := Option.some.inj H
     go_wp2
     go_ret
     exact ⟨by first | rfl | (simp [errW_none, errW_some] <;> rfl) | (simp [*, errW_none, errW_some] <;> rfl), be1x0 HB.out GE290.out⟩
    ·replace c16 := Bool.eq_false_iff.mpr c16
     subst c16
     have H1 : (impl_IsModel.l0 kj4 t292 0 a0_0 a0_1 a0_2 l0_3 l0_4 l0_5) = some r := by rw [if_neg (show ¬ (false = true) by decide)] at H; exact H
     clear H
     have H := H1
     clear H1
     have H' := m_ H
     clear H
     go_wp2
     go_loopg [32] kj4 (fun kq v32 w' => ∃ (x32_2 : Int), v32 = .int .i64 x32_2 ∧ Aside0 (impl_IsModel.l0 kq t292 x32_2 a0_0 a0_1 a0_2 l0_3 l0_4 l0_5 = some r) ∧ Aside0 (kq ≤ kj4) ∧ Aside0 (w'.heap[gb290]? = some (.cells #[.int .i64 a0_0, .int .i64 a0_1, .int .i64 a0_2, (.slice A0_3 l0_3.length c0_3), (.slice A0_4 l0_4.length c0_4), (.slice A0_5 l0_5.length c0_5)] 41 (0, 0))) ∧ Aside0 (Below w.heap.size w w'))
     case atStart => exact ⟨(0), frx0, H', ⟨Nat.le_refl _⟩, ⟨rBx0 BK290.out⟩, ⟨be1x0 HB.out GE290.out⟩⟩
     case round =>
      clear H'
      try clear c16
      obtain ⟨x32_2, rfl, HA, HK2, BK290, HB⟩ := hrel
      cases gk with
      | zero => exact absurd HA.out (by simp [impl_IsModel.l0])
      | succ k2 =>
       have H := HA.out
       clear HA
       simp only [impl_IsModel.l0] at H
       by_cases c17 : x32_2 < t292
       ·rw [if_pos c17] at H
        have c17b0 := decide_eq_true c17
        clear c17
        by_cases c18 : 0 ≤ x32_2
        ·rw [if_pos c18] at H
         have c18b0 := decide_eq_true c18
         clear c18
         by_cases c19 : x32_2 < (l0_3.length : Int)
         ·rw [if_pos c19] at H
          have c19b0 := decide_eq_true c19
          clear c19
          by_cases c20 : (rd l0_3 x32_2) < 0
          ·rw [if_pos c20] at H
           have c20b0 := decide_eq_true c20
           clear c20
           obtain rfl := Option.some.inj H
           obtain ⟨hcz21_0, hcz21_1, hcz21_2, hcz21_3, hcz21_4, hcz21_5, hfz21_0, hfz21_1, hfz21_2, hfz21_3, hfz21_4, hfz21_5⟩ := cf6x0 BK290.out
           obtain ⟨ad293, rfl, hx293_0, p293, q293⟩ := abx0 HB.out HR0_3.out x32_2
           go_wp2
           go_ret
           exact ⟨by first | rfl | (simp [errW_none, errW_some] <;> rfl) | (simp [*, errW_none, errW_some] <;> rfl), be1x0 HB.out GE290.out⟩
          ·rw [if_neg c20] at H
           have c20b0 := decide_eq_false c20
           clear c20
           by_cases c22 : (rd l0_3 x32_2) > 10000
           ·rw [if_pos c22] at H
            have c22b0 : decide (10000 < (rd l0_3 x32_2)) = true := decide_eq_true c22
            clear c22
            obtain rfl := Option.some.inj H
            obtain ⟨hcz23_0, hcz23_1, hcz23_2, hcz23_3, hcz23_4, hcz23_5, hfz23_0, hfz23_1, hfz23_2, hfz23_3, hfz23_4, hfz23_5⟩ := cf6x0 BK290.out
            obtain ⟨ad293, rfl, hx293_0, p293, q293⟩ := abx0 HB.out HR0_3.out x32_2
            have p294 : 0 ≤ (x32_2 : Int) := dax0
            have q294 : x32_2 < (l0_3.length : Int) := dax0
            obtain ⟨ad294, e294, hx294_0⟩ := Kd.at_int HR0_3.out x32_2 p294 q294
            obtain rfl : ad293 = ad294 := (by injection e294)
            replace hx294_0 := (HB.out.cell (World.block_lt_of_cell? w _ hx294_0)).trans hx294_0
            replace p294 := eq_true p294
            replace q294 := eq_true q294
            go_wp2
            go_ret
            exact ⟨by first | rfl | (simp [errW_none, errW_some] <;> rfl) | (simp [*, errW_none, errW_some] <;> rfl), be1x0 HB.out GE290.out⟩
           ·rw [if_neg c22] at H
            have c22b0 : decide (10000 < (rd l0_3 x32_2)) = false := decide_eq_false c22
            clear c22
            by_cases c24 : x32_2 < (l0_4.length : Int)
            ·rw [if_pos c24] at H
             have c24b0 := decide_eq_true c24
             clear c24
             by_cases c25 : (rd l0_4 x32_2) < 0
             ·rw [if_pos c25] at H
              have c25b0 := decide_eq_true c25
              clear c25
              obtain rfl := Option.some.inj H
              obtain ⟨hcz26_0, hcz26_1, hcz26_2, hcz26_3, hcz26_4, hcz26_5, hfz26_0, hfz26_1, hfz26_2, hfz26_3, hfz26_4, hfz26_5⟩ := cf6x0 BK290.out
              obtain ⟨ad293, rfl, hx293_0, p293, q293⟩ := abx0 HB.out HR0_3.out x32_2
              have p294 : 0 ≤ (x32_2 : Int) := dax0
              have q294 : x32_2 < (l0_3.length : Int) := dax0
              obtain ⟨ad294, e294, hx294_0⟩ := Kd.at_int HR0_3.out x32_2 p294 q294
              obtain rfl : ad293 = ad294 := (by injection e294)
              replace hx294_0 := (HB.out.cell (World.block_lt_of_cell? w _ hx294_0)).trans hx294_0
              replace p294 := eq_true p294
              replace q294 := eq_true q294
              obtain ⟨ad295, rfl, hx295_0, p295, q295⟩ := abx0 HB.out HR0_4.out x32_2
              go_wp2
              go_ret
              exact ⟨by first | rfl | (simp [errW_none, errW_some] <;> rfl) | (simp [*, errW_none, errW_some] <;> rfl), be1x0 HB.out GE290.out⟩
             ·rw [if_neg c25] at H
              have c25b0 := decide_eq_false c25
              clear c25
              by_cases c27 : (rd l0_4 x32_2) > 1000
              ·rw [if_pos c27] at H
               have c27b0 : decide (1000 < (rd l0_4 x32_2)) = true := decide_eq_true c27
               clear c27
               obtain rfl := Option.some.inj H
               obtain ⟨hcz28_0, hcz28_1, hcz28_2, hcz28_3, hcz28_4, hcz28_5, hfz28_0, hfz28_1, hfz28_2, hfz28_3, hfz28_4, hfz28_5⟩ := cf6x0 BK290.out
               obtain ⟨ad293, rfl, hx293_0, p293, q293⟩ := abx0 HB.out HR0_3.out x32_2
               have p294 : 0 ≤ (x32_2 : Int) := dax0
               have q294 : x32_2 < (l0_3.length : Int) := dax0
               obtain ⟨ad294, e294, hx294_0⟩ := Kd.at_int HR0_3.out x32_2 p294 q294
               obtain rfl : ad293 = ad294 := (by injection e294)
               replace hx294_0 := (HB.out.cell (World.block_lt_of_cell? w _ hx294_0)).trans hx294_0
               replace p294 := eq_true p294
               replace q294 := eq_true q294
               obtain ⟨ad295, rfl, hx295_0, p295, q295⟩ := abx0 HB.out HR0_4.out x32_2
               have p296 : 0 ≤ (x32_2 : Int) := dax0
               have q296 : x32_2 < (l0_4.length : Int) := dax0
               obtain ⟨ad296, e296, hx296_0⟩ := Kd.at_int HR0_4.out x32_2 p296 q296
               obtain rfl : ad295 = ad296 := (by injection e296)
               replace hx296_0 := (HB.out.cell (World.block_lt_of_cell? w _ hx296_0)).trans hx296_0
               replace p296 := eq_true p296
               replace q296 := eq_true q296
               go_wp2
               go_ret
               exact ⟨by first | rfl | (simp [errW_none, errW_some] <;> rfl) | (simp [*, errW_none, errW_some] <;> rfl), be1x0 HB.out GE290.out⟩
              ·rw [if_neg c27] at H
               have c27b0 : decide (1000 < (rd l0_4 x32_2)) = false := decide_eq_false c27
               clear c27
               by_cases c29 : x32_2 < (l0_5.length : Int)
               ·rw [if_pos c29] at H
                have c29b0 := decide_eq_true c29
                clear c29
                by_cases c30 : (rd l0_5 x32_2) < 0
                ·rw [if_pos c30] at H
                 have c30b0 := decide_eq_true c30
                 clear c30
                 obtain rfl := Option.some.inj H
                 obtain ⟨hcz31_0, hcz31_1, hcz31_2, hcz31_3, hcz31_4, hcz31_5, hfz31_0, hfz31_1, hfz31_2, hfz31_3, hfz31_4, hfz31_5⟩ := cf6x0 BK290.out
                 obtain ⟨ad293, rfl, hx293_0, p293, q293⟩ := abx0 HB.out HR0_3.out x32_2
                 have p294 : 0 ≤ (x32_2 : Int) := dax0
                 have q294 : x32_2 < (l0_3.length : Int) := dax0
                 obtain ⟨ad294, e294, hx294_0⟩ := Kd.at_int HR0_3.out x32_2 p294 q294
                 obtain rfl : ad293 = ad294 := (by injection e294)
                 replace hx294_0 := (HB.out.cell (World.block_lt_of_cell? w _ hx294_0)).trans hx294_0
                 replace p294 := eq_true p294
                 replace q294 := eq_true q294
                 obtain ⟨ad295, rfl, hx295_0, p295, q295⟩ := abx0 HB.out HR0_4.out x32_2
                 have p296 : 0 ≤ (x32_2 : Int) := dax0
                 have q296 : x32_2 < (l0_4.length : Int) := dax0
                 obtain ⟨ad296, e296, hx296_0⟩ := Kd.at_int HR0_4.out x32_2 p296 q296
                 obtain rfl : ad295 = ad296 := (by injection e296)
                 replace hx296_0 := (HB.out.cell (World.block_lt_of_cell? w _ hx296_0)).trans hx296_0
                 replace p296 := eq_true p296
                 replace q296 := eq_true q296
                 obtain ⟨ad297, rfl, hx297_0, p297, q297⟩ := abx0 HB.out HR0_5.out x32_2
                 go_wp2
                 go_ret
                 exact ⟨by first | rfl | (simp [errW_none, errW_some] <;> rfl) | (simp [*, errW_none, errW_some] <;> rfl), be1x0 HB.out GE290.out⟩
                ·rw [if_neg c30] at H
                 have c30b0 := decide_eq_false c30
                 clear c30
                 by_cases c32 : (rd l0_5 x32_2) > 4
                 ·rw [if_pos c32] at H
                  have c32b0 : decide (4 < (rd l0_5 x32_2)) = true := decide_eq_true c32
                  clear c32
                  obtain rfl := Option.some.inj H
                  obtain ⟨hcz33_0, hcz33_1, hcz33_2, hcz33_3, hcz33_4, hcz33_5, hfz33_0, hfz33_1, hfz33_2, hfz33_3, hfz33_4, hfz33_5⟩ := cf6x0 BK290.out
                  obtain ⟨ad293, rfl, hx293_0, p293, q293⟩ := abx0 HB.out HR0_3.out x32_2
                  have p294 : 0 ≤ (x32_2 : Int) := dax0
                  have q294 : x32_2 < (l0_3.length : Int) := dax0
                  obtain ⟨ad294, e294, hx294_0⟩ := Kd.at_int HR0_3.out x32_2 p294 q294
                  obtain rfl : ad293 = ad294 := (by injection e294)
                  replace hx294_0 := (HB.out.cell (World.block_lt_of_cell? w _ hx294_0)).trans hx294_0
                  replace p294 := eq_true p294
                  replace q294 := eq_true q294
                  obtain ⟨ad295, rfl, hx295_0, p295, q295⟩ := abx0 HB.out HR0_4.out x32_2
                  have p296 : 0 ≤ (x32_2 : Int) := dax0
                  have q296 : x32_2 < (l0_4.length : Int) := dax0
                  obtain ⟨ad296, e296, hx296_0⟩ := Kd.at_int HR0_4.out x32_2 p296 q296
                  obtain rfl : ad295 = ad296 := (by injection e296)
                  replace hx296_0 := (HB.out.cell (World.block_lt_of_cell? w _ hx296_0)).trans hx296_0
                  replace p296 := eq_true p296
                  replace q296 := eq_true q296
                  obtain ⟨ad297, rfl, hx297_0, p297, q297⟩ := abx0 HB.out HR0_5.out x32_2
                  have p298 : 0 ≤ (x32_2 : Int) := dax0
                  have q298 : x32_2 < (l0_5.length : Int) := dax0
                  obtain ⟨ad298, e298, hx298_0⟩ := Kd.at_int HR0_5.out x32_2 p298 q298
                  obtain rfl : ad297 = ad298 := (by injection e298)
                  replace hx298_0 := (HB.out.cell (World.block_lt_of_cell? w _ hx298_0)).trans hx298_0
                  replace p298 := eq_true p298
                  replace q298 := eq_true q298
                  go_wp2
                  go_ret
                  exact ⟨by first | rfl | (simp [errW_none, errW_some] <;> rfl) | (simp [*, errW_none, errW_some] <;> rfl), be1x0 HB.out GE290.out⟩
                 ·rw [if_neg c32] at H
                  have c32b0 : decide (4 < (rd l0_5 x32_2)) = false := decide_eq_false c32
                  clear c32
                  have H' := m_ H
                  clear H
                  obtain ⟨hcz34_0, hcz34_1, hcz34_2, hcz34_3, hcz34_4, hcz34_5, hfz34_0, hfz34_1, hfz34_2, hfz34_3, hfz34_4, hfz34_5⟩ := cf6x0 BK290.out
                  obtain ⟨ad293, rfl, hx293_0, p293, q293⟩ := abx0 HB.out HR0_3.out x32_2
                  have p294 : 0 ≤ (x32_2 : Int) := dax0
                  have q294 : x32_2 < (l0_3.length : Int) := dax0
                  obtain ⟨ad294, e294, hx294_0⟩ := Kd.at_int HR0_3.out x32_2 p294 q294
                  obtain rfl : ad293 = ad294 := (by injection e294)
                  replace hx294_0 := (HB.out.cell (World.block_lt_of_cell? w _ hx294_0)).trans hx294_0
                  replace p294 := eq_true p294
                  replace q294 := eq_true q294
                  obtain ⟨ad295, rfl, hx295_0, p295, q295⟩ := abx0 HB.out HR0_4.out x32_2
                  have p296 : 0 ≤ (x32_2 : Int) := dax0
                  have q296 : x32_2 < (l0_4.length : Int) := dax0
                  obtain ⟨ad296, e296, hx296_0⟩ := Kd.at_int HR0_4.out x32_2 p296 q296
                  obtain rfl : ad295 = ad296 := (by injection e296)
                  replace hx296_0 := (HB.out.cell (World.block_lt_of_cell? w _ hx296_0)).trans hx296_0
                  replace p296 := eq_true p296
                  replace q296 := eq_true q296
                  obtain ⟨ad297, rfl, hx297_0, p297, q297⟩ := abx0 HB.out HR0_5.out x32_2
                  have p298 : 0 ≤ (x32_2 : Int) := dax0
                  have q298 : x32_2 < (l0_5.length : Int) := dax0
                  obtain ⟨ad298, e298, hx298_0⟩ := Kd.at_int HR0_5.out x32_2 p298 q298
                  obtain rfl : ad297 = ad298 := (by injection e298)
                  replace hx298_0 := (HB.out.cell (World.block_lt_of_cell? w _ hx298_0)).trans hx298_0
                  replace p298 := eq_true p298
                  replace q298 := eq_true q298
                  go_wp2
                  go_roundg k2
                  case measure => have := HJ4.out; have := HK2.out; omega
                  case rel => exact ⟨(wrap64 (x32_2 + 1)), frx0, H', ⟨by have := HJ4.out; have := HK2.out; omega⟩, ⟨rBx0 BK290.out⟩, ⟨be1x0 HB.out GE290.out⟩⟩
               ·rw [if_neg c29] at H
                exact absurd H (by simp)
            ·rw [if_neg c24] at H
             exact absurd H (by simp)
         ·rw [if_neg c19] at H
          exact absurd H (by simp)
        ·rw [if_neg c18] at H
         exact absurd H (by simp)
       ·rw [if_neg c17] at H
        have c17b0 := decide_eq_false c17
        clear c17
        obtain rfl := Option.some.inj H
        go_wp2
        go_ret
        exact ⟨by first | rfl | (simp [errW_none, errW_some] <;> rfl) | (simp [*, errW_none, errW_some] <;> rfl), be1x0 HB.out GE290.out⟩
 ·replace c3 := Bool.eq_false_iff.mpr c3
  subst c3
  have H1 : (some false) = some r := by rw [if_neg (show ¬ (false = true) by decide)] at H; exact H
  clear H
  have H := H1
  clear H1
  obtain rfl := Option.some.inj H
  go_enter Try.func67, Try.ntmps67
  go_wp2_with (first | ((with_reducible refine gate_dst (N := 1) rfl ?_); (try (refine gate_guard (by rfl) ?_; dsimp only)); refine bxx0 1 41 #[.int .i64 a0_0, .int .i64 a0_1, .int .i64 a0_2, .slice A0_3 l0_3.length c0_3, .slice A0_4 l0_4.length c0_4, .slice A0_5 l0_5.length c0_5] (be0x0 HB.out) (below_size (be0x0 HB.out)) ?_; clear HB; intro gb290 w35 BK290 HB GE290 hb hg; clear hb hg; obtain ⟨hcz36_0, hcz36_1, hcz36_2, hcz36_3, hcz36_4, hcz36_5, hfz36_0, hfz36_1, hfz36_2, hfz36_3, hfz36_4, hfz36_5⟩ := cf6x0 BK290.out) | ((with_reducible refine gate_callee (f := 87) rfl ?_); refine gLx0 (some 7) Try.func87 #[.agg #[.int .i64 a0_0, .int .i64 a0_1, .int .i64 a0_2]] ?_; (with_reducible refine (impl_IsGrid.calls a0_0 a0_1 a0_2 false _ A2.out).mono ?_); rintro e w37 ⟨rfl, hb⟩; refine ⟨_, rfl, ?_⟩; replace BK290 := kbx0 BK290 hb; replace HB := m_ (below_step (be1x0 HB.out GE290.out) hb); (try clear hb); (try clear hb2); (try clear hk); (try clear hi)))
  go_ret
  exact ⟨by first | rfl | (simp [errW_none, errW_some] <;> rfl) | (simp [*, errW_none, errW_some] <;> rfl), be1x0 HB.out GE290.out⟩

end Go.Proofs.Ytloddihakhgcdaa.PFnExactDestinationSums
