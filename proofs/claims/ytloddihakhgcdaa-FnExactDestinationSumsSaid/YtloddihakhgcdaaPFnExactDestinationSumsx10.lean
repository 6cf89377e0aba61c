/- This text is this session's own, not the print's: programs (wip/squeeze.py and others) made it out of what print.sh, or wip/ownprint.py, had written (BYTES set higher), its facts said by short words. -/
import Derived.Test.YtloddihakhgcdaaPFnExactDestinationSumsx0
import Derived.Test.YtloddihakhgcdaaPFnExactDestinationSumsx8
import Derived.Test.YtloddihakhgcdaaPFnExactDestinationSumsx9
import Derived.Test.YtloddihakhgcdaaPFnExactDestinationSumswx0
namespace Go.Proofs.Ytloddihakhgcdaa.PFnExactDestinationSums
open Go.RowKit Go.Proofs.YtloddihakhgcdaaW.PrintWords Go.Proofs.YtloddihakhgcdaaW.PrintLast Go.Proofs.YtloddihakhgcdaaW.PrintMore
attribute [local go_sem] max2_int min2_int max_two min_two max_three min_three max_four min_four   -- for this text's walks alone
set_option linter.unusedVariables false
set_option linter.unusedSimpArgs false

/-! ### impl_IsJob: function 68 -/
mutual
def impl_IsJob.j0 : Nat → Bool → List (List Int) → List Int → List Int → Int → Int → Int → Int → Int → Option (Bool)
 | 0, _, _, _, _, _, _, _, _, _ => none
 | k + 1, x19, x307000, x307001, x307002, x307003, x307004, x307005, x307006, x307007 => if x19 = true then (some false) else (impl_IsJob.l0 k x307001 (x307001.length : Int) 0 x307000 x307001 x307002 x307003 x307004 x307005 x307006 x307007)
def impl_IsJob.l0 : Nat → List Int → Int → Int → List (List Int) → List Int → List Int → Int → Int → Int → Int → Int → Option (Bool)
 | 0, _, _, _, _, _, _, _, _, _, _, _ => none
 | k + 1, x21, x22, x23, x307000, x307001, x307002, x307003, x307004, x307005, x307006, x307007 => if x23 < x22 then (if 0 ≤ x23 then (if x23 < (x21.length : Int) then (if (rd x21 x23) < 0 then (some false) else (if (rd x21 x23) > 10000 then (some false) else (impl_IsJob.l0 k x21 x22 (wrap64 (x23 + 1)) x307000 x307001 x307002 x307003 x307004 x307005 x307006 x307007))) else (none)) else (none)) else (if x307003 ≥ 0 then (if x307003 ≤ 1000000 then (if x307004 ≥ 0 then (if x307004 ≤ 1000000 then (if x307005 ≥ 1 then (if x307005 ≤ 6 then (if x307006 ≥ 1 then (if x307006 ≤ x307007 then (some (decide (x307007 ≤ 20))) else (some false)) else (some false)) else (some false)) else (some false)) else (some false)) else (some false)) else (some false)) else (some false))
end
def impl_IsJob.f (k : Nat) (l0_0 : List (List Int)) (l0_1 : List Int) (l0_2 : List Int) (a0_3 : Int) (a0_4 : Int) (a0_5 : Int) (a0_6 : Int) (a0_7 : Int) : Option (Bool) := (impl_areValued.f k l0_0 l0_2).bind fun t307 => (if t307 = true then (impl_IsJob.j0 k ((l0_1.length : Int) != (l0_0.length : Int)) l0_0 l0_1 l0_2 a0_3 a0_4 a0_5 a0_6 a0_7) else (impl_IsJob.j0 k true l0_0 l0_1 l0_2 a0_3 a0_4 a0_5 a0_6 a0_7))
theorem impl_IsJob.mono_l : ∀ k, (∀ y0 y1 y2 y3 y4 y5 y6 y7 y8, LeO (impl_IsJob.j0 k y0 y1 y2 y3 y4 y5 y6 y7 y8) (impl_IsJob.j0 (k + 1) y0 y1 y2 y3 y4 y5 y6 y7 y8)) ∧ (∀ y0 y1 y2 y3 y4 y5 y6 y7 y8 y9 y10, LeO (impl_IsJob.l0 k y0 y1 y2 y3 y4 y5 y6 y7 y8 y9 y10) (impl_IsJob.l0 (k + 1) y0 y1 y2 y3 y4 y5 y6 y7 y8 y9 y10))
 | 0 => ⟨fun _ _ _ _ _ _ _ _ _ r h => by simp [impl_IsJob.j0] at h, fun _ _ _ _ _ _ _ _ _ _ _ r h => by simp [impl_IsJob.l0] at h⟩
 | k + 1 => by
  obtain ⟨ih0, ih1⟩ := impl_IsJob.mono_l k
  refine ⟨?_, ?_⟩
  ·intro y0 y1 y2 y3 y4 y5 y6 y7 y8
   unfold impl_IsJob.j0
   repeat' first
   | (with_reducible exact ih0 _ _ _ _ _ _ _ _ _)
   | (with_reducible exact ih1 _ _ _ _ _ _ _ _ _ _ _)
   | (with_reducible exact impl_areValued.mono _ _ _)
   | (with_reducible exact LeO.refl _)
   | (with_reducible exact LeO.none _)
   | (with_reducible refine LeO.ite ?_ ?_)
   | (with_reducible refine LeO.bind ?_ (fun _ => ?_))
   | exact ih0 _ _ _ _ _ _ _ _ _
   | exact ih1 _ _ _ _ _ _ _ _ _ _ _
   | exact impl_areValued.mono _ _ _
   | exact LeO.none _
   | refine LeO.ite ?_ ?_
   | refine LeO.bind ?_ (fun _ => ?_)
  ·intro y0 y1 y2 y3 y4 y5 y6 y7 y8 y9 y10
   unfold impl_IsJob.l0
   repeat' first
   | (with_reducible exact ih0 _ _ _ _ _ _ _ _ _)
   | (with_reducible exact ih1 _ _ _ _ _ _ _ _ _ _ _)
   | (with_reducible exact impl_areValued.mono _ _ _)
   | (with_reducible exact LeO.refl _)
   | (with_reducible exact LeO.none _)
   | (with_reducible refine LeO.ite ?_ ?_)
   | (with_reducible refine LeO.bind ?_ (fun _ => ?_))
   | exact ih0 _ _ _ _ _ _ _ _ _
   | exact ih1 _ _ _ _ _ _ _ _ _ _ _
   | exact impl_areValued.mono _ _ _
   | exact LeO.none _
   | refine LeO.ite ?_ ?_
   | refine LeO.bind ?_ (fun _ => ?_)
theorem impl_IsJob.mono : ∀ a0 a1 a2 a3 a4 a5 a6 a7 k, LeO (impl_IsJob.f k a0 a1 a2 a3 a4 a5 a6 a7) (impl_IsJob.f (k + 1) a0 a1 a2 a3 a4 a5 a6 a7) := by
 intro a0 a1 a2 a3 a4 a5 a6 a7 k
 obtain ⟨ih0, ih1⟩ := impl_IsJob.mono_l k
 unfold impl_IsJob.f
 repeat' first
   | (with_reducible exact ih0 _ _ _ _ _ _ _ _ _)
   | (with_reducible exact ih1 _ _ _ _ _ _ _ _ _ _ _)
   | (with_reducible exact impl_areValued.mono _ _ _)
   | (with_reducible exact LeO.refl _)
   | (with_reducible exact LeO.none _)
   | (with_reducible refine LeO.ite ?_ ?_)
   | (with_reducible refine LeO.bind ?_ (fun _ => ?_))
   | exact ih0 _ _ _ _ _ _ _ _ _
   | exact ih1 _ _ _ _ _ _ _ _ _ _ _
   | exact impl_areValued.mono _ _ _
   | exact LeO.none _
   | refine LeO.ite ?_ ?_
   | refine LeO.bind ?_ (fun _ => ?_)
set_option maxHeartbeats 8000000 in
set_option maxRecDepth 100000 in
theorem impl_IsJob.calls (k : Nat) (A0_0 : Option Addr) (c0_0 : Nat) (l0_0 : List (List Int)) (A0_1 : Option Addr) (c0_1 : Nat) (l0_1 : List Int) (A0_2 : Option Addr) (c0_2 : Nat) (l0_2 : List Int) (a0_3 : Int) (a0_4 : Int) (a0_5 : Int) (a0_6 : Int) (a0_7 : Int) (r : Bool) (w : World) (hr0_0 : Kd.C (Kd.slice 3 (Kd.int .i64)) w A0_0 l0_0.length l0_0) (hc0_0 : l0_0.length ≤ c0_0) (hr0_1 : Kd.C (Kd.int .i64) w A0_1 l0_1.length l0_1) (hc0_1 : l0_1.length ≤ c0_1) (hr0_2 : Kd.C (Kd.int .i64) w A0_2 l0_2.length l0_2) (hc0_2 : l0_2.length ≤ c0_2) (h : impl_IsJob.f k l0_0 l0_1 l0_2 a0_3 a0_4 a0_5 a0_6 a0_7 = some r) :
  Calls Try.prog 68 #[.agg #[.slice A0_0 l0_0.length c0_0, .slice A0_1 l0_1.length c0_1, .slice A0_2 l0_2.length c0_2, .int .i64 a0_3, .int .i64 a0_4, .int .i64 a0_5, .int .i64 a0_6, .int .i64 a0_7]] w fun e w' => e = .returned (.bool r) ∧ Below w.heap.size w w' := by
 have hu45 := Try.underlying45
 have HR0_0 := m_ hr0_0
 have HC0_0 := m_ hc0_0
 clear hr0_0 hc0_0
 have HR0_1 := m_ hr0_1
 have HC0_1 := m_ hc0_1
 clear hr0_1 hc0_1
 have HR0_2 := m_ hr0_2
 have HC0_2 := m_ hc0_2
 clear hr0_2 hc0_2
 have HB := m_ (Below.refl w.heap.size w)
 have H : ((impl_areValued.f k l0_0 l0_2).bind fun t307 => (if t307 = true then (impl_IsJob.j0 k ((l0_1.length : Int) != (l0_0.length : Int)) l0_0 l0_1 l0_2 a0_3 a0_4 a0_5 a0_6 a0_7) else (impl_IsJob.j0 k true l0_0 l0_1 l0_2 a0_3 a0_4 a0_5 a0_6 a0_7))) = some r := h
 clear h
 have HC2 := m_ H
 clear H
 go_enter Try.func68, Try.ntmps68
 go_upto_region 1 with (first | ((with_reducible refine gate_dst (N := 1) rfl ?_); (try (refine gate_guard (by rfl) ?_; dsimp only)); refine bxx0 1 45 #[.slice A0_0 l0_0.length c0_0, .slice A0_1 l0_1.length c0_1, .slice A0_2 l0_2.length c0_2, .int .i64 a0_3, .int .i64 a0_4, .int .i64 a0_5, .int .i64 a0_6, .int .i64 a0_7] (be0x0 HB.out) (below_size (be0x0 HB.out)) ?_; clear HB; intro gb306 w3 BK306 HB GE306 hb hg; clear hb hg))
 (try simp only [Act.put, List.setIfInBounds_toArray, List.set_cons_zero, List.set_cons_succ])
 go_cut [19] (fun v19 wc => ∃ (kq : Nat) (x19_1 : Bool), v19 = .bool x19_1 ∧ Aside0 (impl_IsJob.j0 kq x19_1 l0_0 l0_1 l0_2 a0_3 a0_4 a0_5 a0_6 a0_7 = some r) ∧ Aside0 (kq ≤ k) ∧ Aside0 (wc.heap[gb306]? = some (.cells #[(.slice A0_0 l0_0.length c0_0), (.slice A0_1 l0_1.length c0_1), (.slice A0_2 l0_2.length c0_2), .int .i64 a0_3, .int .i64 a0_4, .int .i64 a0_5, .int .i64 a0_6, .int .i64 a0_7] 45 (0, 0))) ∧ Aside0 (Below w.heap.size w wc))
 case first =>
  have H := HC2.out
  clear HC2
  replace H := Option.bind_eq_some_iff.mp H
  obtain ⟨t307, A40, H⟩ := H
  have A4 := m_ A40
  clear A40
  by_cases c5 : t307 = true
  ·subst c5
   have H1 : (impl_IsJob.j0 k ((l0_1.length : Int) != (l0_0.length : Int)) l0_0 l0_1 l0_2 a0_3 a0_4 a0_5 a0_6 a0_7) = some r := by rw [if_pos rfl] at H; exact H
   clear H
   have H := H1
   clear H1
   have H' := m_ H
   clear H
   obtain ⟨hcz6_0, hcz6_1, hcz6_2, hcz6_3, hcz6_4, hcz6_5, hcz6_6, hcz6_7, hfz6_0, hfz6_1, hfz6_2, hfz6_3, hfz6_4, hfz6_5, hfz6_6, hfz6_7⟩ := cf8x0 BK306.out
   go_wp2_with (first | ((with_reducible refine gate_callee (f := 89) rfl ?_); refine gLx0 (some 9) Try.func89 #[.slice A0_0 l0_0.length c0_0, .slice A0_2 l0_2.length c0_2] ?_; (with_reducible refine (impl_areValued.calls k _ _ l0_0 _ _ l0_2 true _ ?side1 ?side2 ?side3 ?side4 A4.out).mono ?_); (case side1 => exact rCx0 (Kd.C_below HR0_0.out HB.out)); (case side2 => exact HC0_0.out); (case side3 => exact rCx0 (Kd.C_below HR0_2.out HB.out)); (case side4 => exact HC0_2.out); rintro e w' ⟨rfl, ⟨nd, rfl⟩⟩; refine ⟨_, rfl, ?_⟩))
   go_meet
   case rel => exact ⟨_, (((l0_1.length : Int) != (l0_0.length : Int))), frx0, H', ⟨by first | omega | exact Nat.le_refl _⟩, ⟨rBx0 BK306.out⟩, ⟨be1x0 HB.out GE306.out⟩⟩
  ·replace c5 := Bool.eq_false_iff.mpr c5
   subst c5
   have H1 : (impl_IsJob.j0 k true l0_0 l0_1 l0_2 a0_3 a0_4 a0_5 a0_6 a0_7) = some r := by rw [if_neg (show ¬ (false = true) by decide)] at H; exact H
   clear H
   have H := H1
   clear H1
   have H' := m_ H
   clear H
   obtain ⟨hcz7_0, hcz7_1, hcz7_2, hcz7_3, hcz7_4, hcz7_5, hcz7_6, hcz7_7, hfz7_0, hfz7_1, hfz7_2, hfz7_3, hfz7_4, hfz7_5, hfz7_6, hfz7_7⟩ := cf8x0 BK306.out
   go_wp2_with (first | ((with_reducible refine gate_callee (f := 89) rfl ?_); refine gLx0 (some 9) Try.func89 #[.slice A0_0 l0_0.length c0_0, .slice A0_2 l0_2.length c0_2] ?_; (with_reducible refine (impl_areValued.calls k _ _ l0_0 _ _ l0_2 false _ ?side1 ?side2 ?side3 ?side4 A4.out).mono ?_); (case side1 => exact rCx0 (Kd.C_below HR0_0.out HB.out)); (case side2 => exact HC0_0.out); (case side3 => exact rCx0 (Kd.C_below HR0_2.out HB.out)); (case side4 => exact HC0_2.out); rintro e w' ⟨rfl, ⟨nd, rfl⟩⟩; refine ⟨_, rfl, ?_⟩))
   go_meet
   case rel => exact ⟨_, (true), frx0, H', ⟨by first | omega | exact Nat.le_refl _⟩, ⟨rBx0 BK306.out⟩, ⟨be1x0 HB.out GE306.out⟩⟩
 case rest =>
  clear HC2
  try clear c5; try clear hcz6_0 hcz6_1 hcz6_2 hcz6_3 hcz6_4 hcz6_5 hcz6_6 hcz6_7; try clear hcz7_0 hcz7_1 hcz7_2 hcz7_3 hcz7_4 hcz7_5 hcz7_6 hcz7_7; try clear hfz6_0 hfz6_1 hfz6_2 hfz6_3 hfz6_4 hfz6_5 hfz6_6 hfz6_7; try clear hfz7_0 hfz7_1 hfz7_2 hfz7_3 hfz7_4 hfz7_5 hfz7_6 hfz7_7
  obtain ⟨kq, x19_1, rfl, HA, HJ1, BK306, HB⟩ := hcut
  cases kq with
  | zero => exact absurd HA.out (by simp [impl_IsJob.j0])
  | succ kj1 =>
   have H := HA.out
   clear HA
   simp only [impl_IsJob.j0] at H
   by_cases c8 : x19_1 = true
   ·subst c8
    have H1 : (some false) = some r := by rw [if_pos rfl] at H; exact H
    clear H
    have H := H1
    clear H1
    obtain rfl := Option.some.inj H
    go_wp2
    go_ret
    exact ⟨by first | rfl | (simp [errW_none, errW_some] <;> rfl) | (simp [*, errW_none, errW_some] <;> rfl), be1x0 HB.out GE306.out⟩
   ·replace c8 := Bool.eq_false_iff.mpr c8
    subst c8
    have H1 : (impl_IsJob.l0 kj1 l0_1 (l0_1.length : Int) 0 l0_0 l0_1 l0_2 a0_3 a0_4 a0_5 a0_6 a0_7) = some r := by rw [if_neg (show ¬ (false = true) by decide)] at H; exact H
    clear H
    have H := H1
    clear H1
    have H' := m_ H
    clear H
    obtain ⟨hcz9_0, hcz9_1, hcz9_2, hcz9_3, hcz9_4, hcz9_5, hcz9_6, hcz9_7, hfz9_0, hfz9_1, hfz9_2, hfz9_3, hfz9_4, hfz9_5, hfz9_6, hfz9_7⟩ := cf8x0 BK306.out
    go_wp2
    go_loopg [23] kj1 (fun kq v23 w' => ∃ (x23_2 : Int), v23 = .int .i64 x23_2 ∧ Aside0 (impl_IsJob.l0 kq l0_1 (l0_1.length : Int) x23_2 l0_0 l0_1 l0_2 a0_3 a0_4 a0_5 a0_6 a0_7 = some r) ∧ Aside0 (kq ≤ kj1) ∧ Aside0 (w'.heap[gb306]? = some (.cells #[(.slice A0_0 l0_0.length c0_0), (.slice A0_1 l0_1.length c0_1), (.slice A0_2 l0_2.length c0_2), .int .i64 a0_3, .int .i64 a0_4, .int .i64 a0_5, .int .i64 a0_6, .int .i64 a0_7] 45 (0, 0))) ∧ Aside0 (Below w.heap.size w w'))
    case atStart => exact ⟨(0), frx0, H', ⟨Nat.le_refl _⟩, ⟨rBx0 BK306.out⟩, ⟨be1x0 HB.out GE306.out⟩⟩
    case round =>
     clear H'
     try clear c8; try clear hcz9_0 hcz9_1 hcz9_2 hcz9_3 hcz9_4 hcz9_5 hcz9_6 hcz9_7 hfz9_0 hfz9_1 hfz9_2 hfz9_3 hfz9_4 hfz9_5 hfz9_6 hfz9_7
     obtain ⟨x23_2, rfl, HA, HK2, BK306, HB⟩ := hrel
     cases gk with
     | zero => exact absurd HA.out (by simp [impl_IsJob.l0])
     | succ k2 =>
      have H := HA.out
      clear HA
      simp only [impl_IsJob.l0] at H
      by_cases c10 : x23_2 < (l0_1.length : Int)
      ·rw [if_pos c10] at H
       have c10b0 := decide_eq_true c10
       clear c10
       by_cases c11 : 0 ≤ x23_2
       ·rw [if_pos c11] at H
        have c11b0 := decide_eq_true c11
        clear c11
        by_cases c12 : x23_2 < (l0_1.length : Int)
        ·rw [if_pos c12] at H
         have c12b0 := decide_eq_true c12
         clear c12
         by_cases c13 : (rd l0_1 x23_2) < 0
         ·rw [if_pos c13] at H
          have c13b0 := decide_eq_true c13
          clear c13
          obtain rfl := Option.some.inj H
          obtain ⟨ad308, rfl, hx308_0, p308, q308⟩ := abx0 HB.out HR0_1.out x23_2
          go_wp2
          go_ret
          exact ⟨by first | rfl | (simp [errW_none, errW_some] <;> rfl) | (simp [*, errW_none, errW_some] <;> rfl), be1x0 HB.out GE306.out⟩
         ·rw [if_neg c13] at H
          have c13b0 := decide_eq_false c13
          clear c13
          by_cases c14 : (rd l0_1 x23_2) > 10000
          ·rw [if_pos c14] at H
           have c14b0 : decide (10000 < (rd l0_1 x23_2)) = true := decide_eq_true c14
           clear c14
           obtain rfl := Option.some.inj H
           obtain ⟨ad308, rfl, hx308_0, p308, q308⟩ := abx0 HB.out HR0_1.out x23_2
           go_wp2
           go_ret
           exact ⟨by first | rfl | (simp [errW_none, errW_some] <;> rfl) | (simp [*, errW_none, errW_some] <;> rfl), be1x0 HB.out GE306.out⟩
          ·rw [if_neg c14] at H
           have c14b0 : decide (10000 < (rd l0_1 x23_2)) = false := decide_eq_false c14
           clear c14
           have H' := m_ H
           clear H
           obtain ⟨ad308, rfl, hx308_0, p308, q308⟩ := abx0 HB.out HR0_1.out x23_2
           go_wp2
           go_roundg k2
           case measure => have := HJ1.out; have := HK2.out; omega
           case rel => exact ⟨(wrap64 (x23_2 + 1)), frx0, H', ⟨by have := HJ1.out; have := HK2.out; omega⟩, ⟨rBx0 BK306.out⟩, ⟨be1x0 HB.out GE306.out⟩⟩
        ·rw [if_neg c12] at H
         exact absurd H (by simp)
       ·rw [if_neg c11] at H
        exact absurd H (by simp)
      ·rw [if_neg c10] at H
       have c10b0 := decide_eq_false c10
       clear c10
       by_cases c15 : a0_3 ≥ 0
       ·rw [if_pos c15] at H
        have c15b0 : decide (0 ≤ a0_3) = true := decide_eq_true c15
        clear c15
        by_cases c16 : a0_3 ≤ 1000000
        ·rw [if_pos c16] at H
         have c16b0 := decide_eq_true c16
         clear c16
         by_cases c17 : a0_4 ≥ 0
         ·rw [if_pos c17] at H
          have c17b0 : decide (0 ≤ a0_4) = true := decide_eq_true c17
          clear c17
          by_cases c18 : a0_4 ≤ 1000000
          ·rw [if_pos c18] at H
           have c18b0 := decide_eq_true c18
           clear c18
           by_cases c19 : a0_5 ≥ 1
           ·rw [if_pos c19] at H
            have c19b0 : decide (1 ≤ a0_5) = true := decide_eq_true c19
            clear c19
            by_cases c20 : a0_5 ≤ 6
            ·rw [if_pos c20] at H
             have c20b0 := decide_eq_true c20
             clear c20
             by_cases c21 : a0_6 ≥ 1
             ·rw [if_pos c21] at H
              have c21b0 : decide (1 ≤ a0_6) = true := decide_eq_true c21
              clear c21
              by_cases c22 : a0_6 ≤ a0_7
              ·rw [if_pos c22] at H
               have c22b0 := decide_eq_true c22
               clear c22
               obtain rfl := Option.some.inj H
               obtain ⟨hcz23_0, hcz23_1, hcz23_2, hcz23_3, hcz23_4, hcz23_5, hcz23_6, hcz23_7, hfz23_0, hfz23_1, hfz23_2, hfz23_3, hfz23_4, hfz23_5, hfz23_6, hfz23_7⟩ := cf8x0 BK306.out
               go_wp2
               go_ret
               exact ⟨by first | rfl | (simp [errW_none, errW_some] <;> rfl) | (simp [*, errW_none, errW_some] <;> rfl), be1x0 HB.out GE306.out⟩
              ·rw [if_neg c22] at H
               have c22b0 := decide_eq_false c22
               clear c22
               obtain rfl := Option.some.inj H
               obtain ⟨hcz24_0, hcz24_1, hcz24_2, hcz24_3, hcz24_4, hcz24_5, hcz24_6, hcz24_7, hfz24_0, hfz24_1, hfz24_2, hfz24_3, hfz24_4, hfz24_5, hfz24_6, hfz24_7⟩ := cf8x0 BK306.out
               go_wp2
               go_ret
               exact ⟨by first | rfl | (simp [errW_none, errW_some] <;> rfl) | (simp [*, errW_none, errW_some] <;> rfl), be1x0 HB.out GE306.out⟩
             ·rw [if_neg c21] at H
              have c21b0 : decide (1 ≤ a0_6) = false := decide_eq_false c21
              clear c21
              obtain rfl := Option.some.inj H
              obtain ⟨hcz25_0, hcz25_1, hcz25_2, hcz25_3, hcz25_4, hcz25_5, hcz25_6, hcz25_7, hfz25_0, hfz25_1, hfz25_2, hfz25_3, hfz25_4, hfz25_5, hfz25_6, hfz25_7⟩ := cf8x0 BK306.out
              go_wp2
              go_ret
              exact ⟨by first | rfl | (simp [errW_none, errW_some] <;> rfl) | (simp [*, errW_none, errW_some] <;> rfl), be1x0 HB.out GE306.out⟩
            ·rw [if_neg c20] at H
             have c20b0 := decide_eq_false c20
             clear c20
             obtain rfl := Option.some.inj H
             obtain ⟨hcz26_0, hcz26_1, hcz26_2, hcz26_3, hcz26_4, hcz26_5, hcz26_6, hcz26_7, hfz26_0, hfz26_1, hfz26_2, hfz26_3, hfz26_4, hfz26_5, hfz26_6, hfz26_7⟩ := cf8x0 BK306.out
             go_wp2
             go_ret
             exact ⟨by first | rfl | (simp [errW_none, errW_some] <;> rfl) | (simp [*, errW_none, errW_some] <;> rfl), be1x0 HB.out GE306.out⟩
           ·rw [if_neg c19] at H
            have c19b0 : decide (1 ≤ a0_5) = false := decide_eq_false c19
            clear c19
            obtain rfl := Option.some.inj H
            obtain ⟨hcz27_0, hcz27_1, hcz27_2, hcz27_3, hcz27_4, hcz27_5, hcz27_6, hcz27_7, hfz27_0, hfz27_1, hfz27_2, hfz27_3, hfz27_4, hfz27_5, hfz27_6, hfz27_7⟩ := cf8x0 BK306.out
            go_wp2
            go_ret
            exact ⟨by first | rfl | (simp [errW_none, errW_some] <;> rfl) | (simp [*, errW_none, errW_some] <;> rfl), be1x0 HB.out GE306.out⟩
          ·rw [if_neg c18] at H
           have c18b0 := decide_eq_false c18
           clear c18
           obtain rfl := Option.some.inj H
           obtain ⟨hcz28_0, hcz28_1, hcz28_2, hcz28_3, hcz28_4, hcz28_5, hcz28_6, hcz28_7, hfz28_0, hfz28_1, hfz28_2, hfz28_3, hfz28_4, hfz28_5, hfz28_6, hfz28_7⟩ := cf8x0 BK306.out
           go_wp2
           go_ret
           exact ⟨by first | rfl | (simp [errW_none, errW_some] <;> rfl) | (simp [*, errW_none, errW_some] <;> rfl), be1x0 HB.out GE306.out⟩
         ·rw [if_neg c17] at H
          have c17b0 : decide (0 ≤ a0_4) = false := decide_eq_false c17
          clear c17
          obtain rfl := Option.some.inj H
          obtain ⟨hcz29_0, hcz29_1, hcz29_2, hcz29_3, hcz29_4, hcz29_5, hcz29_6, hcz29_7, hfz29_0, hfz29_1, hfz29_2, hfz29_3, hfz29_4, hfz29_5, hfz29_6, hfz29_7⟩ := cf8x0 BK306.out
          go_wp2
          go_ret
          exact ⟨by first | rfl | (simp [errW_none, errW_some] <;> rfl) | (simp [*, errW_none, errW_some] <;> rfl), be1x0 HB.out GE306.out⟩
        ·rw [if_neg c16] at H
         have c16b0 := decide_eq_false c16
         clear c16
         obtain rfl := Option.some.inj H
         obtain ⟨hcz30_0, hcz30_1, hcz30_2, hcz30_3, hcz30_4, hcz30_5, hcz30_6, hcz30_7, hfz30_0, hfz30_1, hfz30_2, hfz30_3, hfz30_4, hfz30_5, hfz30_6, hfz30_7⟩ := cf8x0 BK306.out
         go_wp2
         go_ret
         exact ⟨by first | rfl | (simp [errW_none, errW_some] <;> rfl) | (simp [*, errW_none, errW_some] <;> rfl), be1x0 HB.out GE306.out⟩
       ·rw [if_neg c15] at H
        have c15b0 : decide (0 ≤ a0_3) = false := decide_eq_false c15
        clear c15
        obtain rfl := Option.some.inj H
        obtain ⟨hcz31_0, hcz31_1, hcz31_2, hcz31_3, hcz31_4, hcz31_5, hcz31_6, hcz31_7, hfz31_0, hfz31_1, hfz31_2, hfz31_3, hfz31_4, hfz31_5, hfz31_6, hfz31_7⟩ := cf8x0 BK306.out
        go_wp2
        go_ret
        exact ⟨by first | rfl | (simp [errW_none, errW_some] <;> rfl) | (simp [*, errW_none, errW_some] <;> rfl), be1x0 HB.out GE306.out⟩

/-! ### slices_Equal_int_int: function 69 -/
def slices_Equal_int_int.l0 : Nat → List Int → List Int → Int → Int → Option (Bool)
 | 0, _, _, _, _ => none
 | k + 1, x0, x1, x12, x13 => if x13 < x12 then (if 0 ≤ x13 then (if x13 < (x0.length : Int) then (if x13 < (x1.length : Int) then (if (rd x0 x13) = (rd x1 x13) then (slices_Equal_int_int.l0 k x0 x1 x12 (wrap64 (x13 + 1))) else (some false)) else (none)) else (none)) else (none)) else (some true)
def slices_Equal_int_int.f (k : Nat) (l0 : List Int) (l1 : List Int) : Option (Bool) := if (l0.length : Int) = (l1.length : Int) then (slices_Equal_int_int.l0 k l0 l1 (l0.length : Int) 0) else (some false)
theorem slices_Equal_int_int.mono_l : ∀ k, (∀ y0 y1 y2 y3, LeO (slices_Equal_int_int.l0 k y0 y1 y2 y3) (slices_Equal_int_int.l0 (k + 1) y0 y1 y2 y3))
 | 0 => fun _ _ _ _ r h => by simp [slices_Equal_int_int.l0] at h
 | k + 1 => by
  have ih0 := slices_Equal_int_int.mono_l k
  ·intro y0 y1 y2 y3
   unfold slices_Equal_int_int.l0
   repeat' first
   | (with_reducible exact ih0 _ _ _ _)
   | (with_reducible exact LeO.refl _)
   | (with_reducible exact LeO.none _)
   | (with_reducible refine LeO.ite ?_ ?_)
   | (with_reducible refine LeO.bind ?_ (fun _ => ?_))
   | exact ih0 _ _ _ _
   | exact LeO.none _
   | refine LeO.ite ?_ ?_
   | refine LeO.bind ?_ (fun _ => ?_)
theorem slices_Equal_int_int.mono : ∀ a0 a1 k, LeO (slices_Equal_int_int.f k a0 a1) (slices_Equal_int_int.f (k + 1) a0 a1) := by
 intro a0 a1 k
 have ih0 := slices_Equal_int_int.mono_l k
 unfold slices_Equal_int_int.f
 repeat' first
   | (with_reducible exact ih0 _ _ _ _)
   | (with_reducible exact LeO.refl _)
   | (with_reducible exact LeO.none _)
   | (with_reducible refine LeO.ite ?_ ?_)
   | (with_reducible refine LeO.bind ?_ (fun _ => ?_))
   | exact ih0 _ _ _ _
   | exact LeO.none _
   | refine LeO.ite ?_ ?_
   | refine LeO.bind ?_ (fun _ => ?_)
set_option maxHeartbeats 8000000 in
set_option maxRecDepth 100000 in
theorem slices_Equal_int_int.calls (k : Nat) (A0 : Option Addr) (c0 : Nat) (l0 : List Int) (A1 : Option Addr) (c1 : Nat) (l1 : List Int) (r : Bool) (w : World) (hr0 : Kd.C (Kd.int .i64) w A0 l0.length l0) (hc0 : l0.length ≤ c0) (hr1 : Kd.C (Kd.int .i64) w A1 l1.length l1) (hc1 : l1.length ≤ c1) (h : slices_Equal_int_int.f k l0 l1 = some r) :
  Calls Try.prog 69 #[.slice A0 l0.length c0, .slice A1 l1.length c1] w fun e w' => e = .returned (.bool r) ∧ Drawn0 w w' := by
 have HR0 := m_ hr0
 have HC0 := m_ hc0
 clear hr0 hc0
 have HR1 := m_ hr1
 have HC1 := m_ hc1
 clear hr1 hc1
 have H : (if (l0.length : Int) = (l1.length : Int) then (slices_Equal_int_int.l0 k l0 l1 (l0.length : Int) 0) else (some false)) = some r := h
 clear h
 by_cases c3 : (l0.length : Int) = (l1.length : Int)
 ·rw [if_pos c3] at H
  have c3b0 : ((l0.length : Int) == (l1.length : Int)) = true := beq_iff_eq.mpr c3
  have c3b1 : ((l0.length : Int) != (l1.length : Int)) = false := bne_eq_false_iff_eq.mpr c3
  have c3b2 : (l0.length == l1.length) = true := by first | simpa using c3 | (simp at c3 ⊢; omega)
  clear c3
  have H' := m_ H
  clear H
  go_enter Try.func69, Try.ntmps69
  go_wp2
  repeat (go_quiet (fail); try go_wp2)
  go_loopg [13] k (fun kq v13 w' => ∃ (x13_1 : Int), v13 = .int .i64 x13_1 ∧ Aside0 (slices_Equal_int_int.l0 kq l0 l1 (l0.length : Int) x13_1 = some r) ∧ Aside0 (kq ≤ k) ∧ Drawn0 w w')
  case atStart => exact ⟨(0), frx0, H', ⟨Nat.le_refl _⟩, drx0⟩
  case round =>
   clear H'
   try clear c1; try clear c3; try clear c3b0; try clear c3b1; try clear c3b2
   obtain ⟨x13_1, rfl, HA, HK1, ⟨m1, rfl⟩⟩ := hrel
   cases gk with
   | zero => exact absurd HA.out (by simp [slices_Equal_int_int.l0])
   | succ k1 =>
    have H := HA.out
    clear HA
    simp only [slices_Equal_int_int.l0] at H
    by_cases c4 : x13_1 < (l0.length : Int)
    ·rw [if_pos c4] at H
     have c4b0 := decide_eq_true c4
     clear c4
     by_cases c5 : 0 ≤ x13_1
     ·rw [if_pos c5] at H
      have c5b0 := decide_eq_true c5
      clear c5
      by_cases c6 : x13_1 < (l0.length : Int)
      ·rw [if_pos c6] at H
       have c6b0 := decide_eq_true c6
       clear c6
       by_cases c7 : x13_1 < (l1.length : Int)
       ·rw [if_pos c7] at H
        have c7b0 := decide_eq_true c7
        clear c7
        by_cases c8 : (rd l0 x13_1) = (rd l1 x13_1)
        ·rw [if_pos c8] at H
         have c8b0 : ((rd l0 x13_1) == (rd l1 x13_1)) = true := beq_iff_eq.mpr c8
         have c8b1 : ((rd l0 x13_1) != (rd l1 x13_1)) = false := bne_eq_false_iff_eq.mpr c8
         clear c8
         have H' := m_ H
         clear H
         obtain ⟨ad309, rfl, hx309_0, p309, q309⟩ := atx0 HR0.out x13_1
         obtain ⟨ad310, rfl, hx310_0, p310, q310⟩ := atx0 HR1.out x13_1
         go_wp2
         repeat (go_quiet (fail); try go_wp2)
         go_roundg k1
         case measure => have := HK1.out; omega
         case rel => exact ⟨(wrap64 (x13_1 + 1)), frx0, H', ⟨by have := HK1.out; omega⟩, drx0⟩
        ·rw [if_neg c8] at H
         have c8b0 : ((rd l0 x13_1) == (rd l1 x13_1)) = false := beq_eq_false_iff_ne.mpr c8
         have c8b1 : ((rd l0 x13_1) != (rd l1 x13_1)) = true := bne_iff_ne.mpr c8
         obtain rfl := Option.some.inj H
         obtain ⟨ad309, rfl, hx309_0, p309, q309⟩ := atx0 HR0.out x13_1
         obtain ⟨ad310, rfl, hx310_0, p310, q310⟩ := atx0 HR1.out x13_1
         go_wp2
         repeat (go_quiet (fail); try go_wp2)
         go_ret
         exact ⟨frx0, drx0⟩
       ·rw [if_neg c7] at H
        exact absurd H (by simp)
      ·rw [if_neg c6] at H
       exact absurd H (by simp)
     ·rw [if_neg c5] at H
      exact absurd H (by simp)
    ·rw [if_neg c4] at H
     have c4b0 := decide_eq_false c4
     clear c4
     obtain rfl := Option.some.inj H
     go_wp2
     repeat (go_quiet (fail); try go_wp2)
     go_ret
     exact ⟨frx0, drx0⟩
 ·rw [if_neg c3] at H
  have c3b0 : ((l0.length : Int) == (l1.length : Int)) = false := beq_eq_false_iff_ne.mpr c3
  have c3b1 : ((l0.length : Int) != (l1.length : Int)) = true := bne_iff_ne.mpr c3
  have c3b2 : (l0.length == l1.length) = false := by first | simpa using c3 | (simp at c3 ⊢; omega)
  obtain rfl := Option.some.inj H
  go_enter Try.func69, Try.ntmps69
  go_wp2
  repeat (go_quiet (fail); try go_wp2)
  go_ret
  exact ⟨frx0, drx0⟩

/-! ### impl_areOneMine: function 40 -/
def impl_areOneMine.f (k : Nat) (a0_0 : Int) (a0_1 : Int) (a0_2 : Int) (l0_3 : List Int) (l0_4 : List Int) (l0_5 : List Int) (l1_0 : List (List Int)) (l1_1 : List Int) (l1_2 : List Int) (a1_3 : Int) (a1_4 : Int) (a1_5 : Int) (a1_6 : Int) (a1_7 : Int) : Option (Bool) := (impl_IsModel.f k a0_0 a0_1 a0_2 l0_3 l0_4 l0_5).bind fun t313 => (if t313 = true then ((impl_IsJob.f k l1_0 l1_1 l1_2 a1_3 a1_4 a1_5 a1_6 a1_7).bind fun t314 => (if t314 = true then ((slices_Equal_int_int.f k l0_3 l1_1).bind fun t315 => (some t315)) else (some false))) else (some false))
theorem impl_areOneMine.mono : ∀ a0 a1 a2 a3 a4 a5 a6 a7 a8 a9 a10 a11 a12 a13 k, LeO (impl_areOneMine.f k a0 a1 a2 a3 a4 a5 a6 a7 a8 a9 a10 a11 a12 a13) (impl_areOneMine.f (k + 1) a0 a1 a2 a3 a4 a5 a6 a7 a8 a9 a10 a11 a12 a13) := by
 intro a0 a1 a2 a3 a4 a5 a6 a7 a8 a9 a10 a11 a12 a13 k
 unfold impl_areOneMine.f
 repeat' first
   | (with_reducible exact impl_IsJob.mono _ _ _ _ _ _ _ _ _)
   | (with_reducible exact impl_IsModel.mono _ _ _ _ _ _ _)
   | (with_reducible exact slices_Equal_int_int.mono _ _ _)
   | (with_reducible exact LeO.refl _)
   | (with_reducible exact LeO.none _)
   | (with_reducible refine LeO.ite ?_ ?_)
   | (with_reducible refine LeO.bind ?_ (fun _ => ?_))
   | exact impl_IsJob.mono _ _ _ _ _ _ _ _ _
   | exact impl_IsModel.mono _ _ _ _ _ _ _
   | exact slices_Equal_int_int.mono _ _ _
   | exact LeO.none _
   | refine LeO.ite ?_ ?_
   | refine LeO.bind ?_ (fun _ => ?_)
set_option maxHeartbeats 8000000 in
set_option maxRecDepth 100000 in
theorem impl_areOneMine.calls (k : Nat) (a0_0 : Int) (a0_1 : Int) (a0_2 : Int) (A0_3 : Option Addr) (c0_3 : Nat) (l0_3 : List Int) (A0_4 : Option Addr) (c0_4 : Nat) (l0_4 : List Int) (A0_5 : Option Addr) (c0_5 : Nat) (l0_5 : List Int) (A1_0 : Option Addr) (c1_0 : Nat) (l1_0 : List (List Int)) (A1_1 : Option Addr) (c1_1 : Nat) (l1_1 : List Int) (A1_2 : Option Addr) (c1_2 : Nat) (l1_2 : List Int) (a1_3 : Int) (a1_4 : Int) (a1_5 : Int) (a1_6 : Int) (a1_7 : Int) (r : Bool) (w : World) (hr0_3 : Kd.C (Kd.int .i64) w A0_3 l0_3.length l0_3) (hc0_3 : l0_3.length ≤ c0_3) (hr0_4 : Kd.C (Kd.int .i64) w A0_4 l0_4.length l0_4) (hc0_4 : l0_4.length ≤ c0_4) (hr0_5 : Kd.C (Kd.int .i64) w A0_5 l0_5.length l0_5) (hc0_5 : l0_5.length ≤ c0_5) (hr1_0 : Kd.C (Kd.slice 3 (Kd.int .i64)) w A1_0 l1_0.length l1_0) (hc1_0 : l1_0.length ≤ c1_0) (hr1_1 : Kd.C (Kd.int .i64) w A1_1 l1_1.length l1_1) (hc1_1 : l1_1.length ≤ c1_1) (hr1_2 : Kd.C (Kd.int .i64) w A1_2 l1_2.length l1_2) (hc1_2 : l1_2.length ≤ c1_2) (h : impl_areOneMine.f k a0_0 a0_1 a0_2 l0_3 l0_4 l0_5 l1_0 l1_1 l1_2 a1_3 a1_4 a1_5 a1_6 a1_7 = some r) :
  Calls Try.prog 40 #[.agg #[.int .i64 a0_0, .int .i64 a0_1, .int .i64 a0_2, .slice A0_3 l0_3.length c0_3, .slice A0_4 l0_4.length c0_4, .slice A0_5 l0_5.length c0_5], .agg #[.slice A1_0 l1_0.length c1_0, .slice A1_1 l1_1.length c1_1, .slice A1_2 l1_2.length c1_2, .int .i64 a1_3, .int .i64 a1_4, .int .i64 a1_5, .int .i64 a1_6, .int .i64 a1_7]] w fun e w' => e = .returned (.bool r) ∧ Below w.heap.size w w' := by
 have hu41 := Try.underlying41
 have hu45 := Try.underlying45
 have HR0_3 := m_ hr0_3
 have HC0_3 := m_ hc0_3
 clear hr0_3 hc0_3
 have HR0_4 := m_ hr0_4
 have HC0_4 := m_ hc0_4
 clear hr0_4 hc0_4
 have HR0_5 := m_ hr0_5
 have HC0_5 := m_ hc0_5
 clear hr0_5 hc0_5
 have HR1_0 := m_ hr1_0
 have HC1_0 := m_ hc1_0
 clear hr1_0 hc1_0
 have HR1_1 := m_ hr1_1
 have HC1_1 := m_ hc1_1
 clear hr1_1 hc1_1
 have HR1_2 := m_ hr1_2
 have HC1_2 := m_ hc1_2
 clear hr1_2 hc1_2
 have HB := m_ (Below.refl w.heap.size w)
 have H : ((impl_IsModel.f k a0_0 a0_1 a0_2 l0_3 l0_4 l0_5).bind fun t313 => (if t313 = true then ((impl_IsJob.f k l1_0 l1_1 l1_2 a1_3 a1_4 a1_5 a1_6 a1_7).bind fun t314 => (if t314 = true then ((slices_Equal_int_int.f k l0_3 l1_1).bind fun t315 => (some t315)) else (some false))) else (some false))) = some r := h
 clear h
 replace H := Option.bind_eq_some_iff.mp H
 obtain ⟨t313, A30, H⟩ := H
 have A3 := m_ A30
 clear A30
 by_cases c4 : t313 = true
 ·subst c4
  have H1 : ((impl_IsJob.f k l1_0 l1_1 l1_2 a1_3 a1_4 a1_5 a1_6 a1_7).bind fun t314 => (if t314 = true then ((slices_Equal_int_int.f k l0_3 l1_1).bind fun t315 => (some t315)) else (some false))) = some r := by rw [if_pos rfl] at H; exact H
  clear H
  have H := H1
  clear H1
  replace H := Option.bind_eq_some_iff.mp H
  obtain ⟨t314, A50, H⟩ := H
  have A5 := m_ A50
  clear A50
  by_cases c6 : t314 = true
  ·subst c6
   have H1 : ((slices_Equal_int_int.f k l0_3 l1_1).bind fun t315 => (some t315)) = some r := by rw [if_pos rfl] at H; exact H
   clear H
   have H := H1
   clear H1
   replace H := Option.bind_eq_some_iff.mp H
   obtain ⟨t315, A70, H⟩ := H
   have A7 := m_ A70
   clear A70
   obtain rfl := Option.some.inj H
   go_enter Try.func40, Try.ntmps40
   go_wp2_with (first | ((with_reducible refine gate_dst (N := 2) rfl ?_); refine bxx0 2 41 #[.int .i64 a0_0, .int .i64 a0_1, .int .i64 a0_2, .slice A0_3 l0_3.length c0_3, .slice A0_4 l0_4.length c0_4, .slice A0_5 l0_5.length c0_5] (be0x0 HB.out) (below_size (be0x0 HB.out)) ?_; clear HB; intro gb311 w8 BK311 HB GE311 hb hg; clear hb hg) | ((with_reducible refine gate_dst (N := 3) rfl ?_); refine bxx0 3 45 #[.slice A1_0 l1_0.length c1_0, .slice A1_1 l1_1.length c1_1, .slice A1_2 l1_2.length c1_2, .int .i64 a1_3, .int .i64 a1_4, .int .i64 a1_5, .int .i64 a1_6, .int .i64 a1_7] (be1x0 HB.out GE311.out) (below_size (be1x0 HB.out GE311.out)) ?_; clear HB; intro gb312 w9 BK312 HB GE312 hb hg; have NB311_312 := nbx0 BK311 hg; have NB312_311 := ncx0 BK311 hg; replace BK311 := kbx0 BK311 hb; clear hb hg; have hnb10 := NB311_312.out; have hnc10 := NB312_311.out; obtain ⟨hcz11_0, hcz11_1, hcz11_2, hcz11_3, hcz11_4, hcz11_5, hfz11_0, hfz11_1, hfz11_2, hfz11_3, hfz11_4, hfz11_5⟩ := cf6x0 BK311.out) | ((with_reducible refine gate_callee (f := 67) rfl ?_); refine gLx0 (some 6) Try.func67 #[.agg #[.int .i64 a0_0, .int .i64 a0_1, .int .i64 a0_2, .slice A0_3 l0_3.length c0_3, .slice A0_4 l0_4.length c0_4, .slice A0_5 l0_5.length c0_5]] ?_; (with_reducible refine (impl_IsModel.calls k a0_0 a0_1 a0_2 _ _ l0_3 _ _ l0_4 _ _ l0_5 true _ ?side1 ?side2 ?side3 ?side4 ?side5 ?side6 A3.out).mono ?_); (case side1 => exact rCx0 (Kd.C_below HR0_3.out HB.out)); (case side2 => exact HC0_3.out); (case side3 => exact rCx0 (Kd.C_below HR0_4.out HB.out)); (case side4 => exact HC0_4.out); (case side5 => exact rCx0 (Kd.C_below HR0_5.out HB.out)); (case side6 => exact HC0_5.out); rintro e w12 ⟨rfl, hb⟩; refine ⟨_, rfl, ?_⟩; replace BK311 := kbx0 BK311 hb; replace BK312 := kbx0 BK312 hb; replace HB := m_ (below_step (be2x0 HB.out GE311.out GE312.out) hb); (try clear hb); (try clear hb2); (try clear hk); (try clear hi); obtain ⟨hcz13_0, hcz13_1, hcz13_2, hcz13_3, hcz13_4, hcz13_5, hcz13_6, hcz13_7, hfz13_0, hfz13_1, hfz13_2, hfz13_3, hfz13_4, hfz13_5, hfz13_6, hfz13_7⟩ := cf8x0 BK312.out) | (go_at_call 68; (with_reducible refine (impl_IsJob.calls k _ _ l1_0 _ _ l1_1 _ _ l1_2 a1_3 a1_4 a1_5 a1_6 a1_7 true _ ?side1 ?side2 ?side3 ?side4 ?side5 ?side6 A5.out).mono ?_); (case side1 => exact rCx0 (Kd.C_below HR1_0.out HB.out)); (case side2 => exact HC1_0.out); (case side3 => exact rCx0 (Kd.C_below HR1_1.out HB.out)); (case side4 => exact HC1_1.out); (case side5 => exact rCx0 (Kd.C_below HR1_2.out HB.out)); (case side6 => exact HC1_2.out); rintro e w14 ⟨rfl, hb⟩; replace BK311 := kbx0 BK311 hb; replace BK312 := kbx0 BK312 hb; replace HB := m_ (below_step (be2x0 HB.out GE311.out GE312.out) hb); (try clear hb); (try clear hb2); (try clear hk); (try clear hi); obtain ⟨hcz15_0, hcz15_1, hcz15_2, hcz15_3, hcz15_4, hcz15_5, hfz15_0, hfz15_1, hfz15_2, hfz15_3, hfz15_4, hfz15_5⟩ := cf6x0 BK311.out; obtain ⟨hcz16_0, hcz16_1, hcz16_2, hcz16_3, hcz16_4, hcz16_5, hcz16_6, hcz16_7, hfz16_0, hfz16_1, hfz16_2, hfz16_3, hfz16_4, hfz16_5, hfz16_6, hfz16_7⟩ := cf8x0 BK312.out) | (go_at_call 69; (with_reducible refine (slices_Equal_int_int.calls k _ _ l0_3 _ _ l1_1 t315 _ ?side1 ?side2 ?side3 ?side4 A7.out).mono ?_); (case side1 => exact rCx0 (Kd.C_below HR0_3.out HB.out)); (case side2 => exact HC0_3.out); (case side3 => exact rCx0 (Kd.C_below HR1_1.out HB.out)); (case side4 => exact HC1_1.out); rintro e w' ⟨rfl, ⟨nd, rfl⟩⟩))
   go_ret
   exact ⟨by first | rfl | (simp [errW_none, errW_some] <;> rfl) | (simp [*, errW_none, errW_some] <;> rfl), be2x0 HB.out GE311.out GE312.out⟩
  ·replace c6 := Bool.eq_false_iff.mpr c6
   subst c6
   have H1 : (some false) = some r := by rw [if_neg (show ¬ (false = true) by decide)] at H; exact H
   clear H
   have H := H1
   clear H1
   obtain rfl := Option.some.inj H
   go_enter Try.func40, Try.ntmps40
   go_wp2_with (first | ((with_reducible refine gate_dst (N := 2) rfl ?_); refine bxx0 2 41 #[.int .i64 a0_0, .int .i64 a0_1, .int .i64 a0_2, .slice A0_3 l0_3.length c0_3, .slice A0_4 l0_4.length c0_4, .slice A0_5 l0_5.length c0_5] (be0x0 HB.out) (below_size (be0x0 HB.out)) ?_; clear HB; intro gb311 w17 BK311 HB GE311 hb hg; clear hb hg) | ((with_reducible refine gate_dst (N := 3) rfl ?_); refine bxx0 3 45 #[.slice A1_0 l1_0.length c1_0, .slice A1_1 l1_1.length c1_1, .slice A1_2 l1_2.length c1_2, .int .i64 a1_3, .int .i64 a1_4, .int .i64 a1_5, .int .i64 a1_6, .int .i64 a1_7] (be1x0 HB.out GE311.out) (below_size (be1x0 HB.out GE311.out)) ?_; clear HB; intro gb312 w18 BK312 HB GE312 hb hg; have NB311_312 := nbx0 BK311 hg; have NB312_311 := ncx0 BK311 hg; replace BK311 := kbx0 BK311 hb; clear hb hg; have hnb19 := NB311_312.out; have hnc19 := NB312_311.out; obtain ⟨hcz20_0, hcz20_1, hcz20_2, hcz20_3, hcz20_4, hcz20_5, hfz20_0, hfz20_1, hfz20_2, hfz20_3, hfz20_4, hfz20_5⟩ := cf6x0 BK311.out) | ((with_reducible refine gate_callee (f := 67) rfl ?_); refine gLx0 (some 6) Try.func67 #[.agg #[.int .i64 a0_0, .int .i64 a0_1, .int .i64 a0_2, .slice A0_3 l0_3.length c0_3, .slice A0_4 l0_4.length c0_4, .slice A0_5 l0_5.length c0_5]] ?_; (with_reducible refine (impl_IsModel.calls k a0_0 a0_1 a0_2 _ _ l0_3 _ _ l0_4 _ _ l0_5 true _ ?side1 ?side2 ?side3 ?side4 ?side5 ?side6 A3.out).mono ?_); (case side1 => exact rCx0 (Kd.C_below HR0_3.out HB.out)); (case side2 => exact HC0_3.out); (case side3 => exact rCx0 (Kd.C_below HR0_4.out HB.out)); (case side4 => exact HC0_4.out); (case side5 => exact rCx0 (Kd.C_below HR0_5.out HB.out)); (case side6 => exact HC0_5.out); rintro e w21 ⟨rfl, hb⟩; refine ⟨_, rfl, ?_⟩; replace BK311 := kbx0 BK311 hb; replace BK312 := kbx0 BK312 hb; replace HB := m_ (below_step (be2x0 HB.out GE311.out GE312.out) hb); (try clear hb); (try clear hb2); (try clear hk); (try clear hi); obtain ⟨hcz22_0, hcz22_1, hcz22_2, hcz22_3, hcz22_4, hcz22_5, hcz22_6, hcz22_7, hfz22_0, hfz22_1, hfz22_2, hfz22_3, hfz22_4, hfz22_5, hfz22_6, hfz22_7⟩ := cf8x0 BK312.out) | (go_at_call 68; (with_reducible refine (impl_IsJob.calls k _ _ l1_0 _ _ l1_1 _ _ l1_2 a1_3 a1_4 a1_5 a1_6 a1_7 false _ ?side1 ?side2 ?side3 ?side4 ?side5 ?side6 A5.out).mono ?_); (case side1 => exact rCx0 (Kd.C_below HR1_0.out HB.out)); (case side2 => exact HC1_0.out); (case side3 => exact rCx0 (Kd.C_below HR1_1.out HB.out)); (case side4 => exact HC1_1.out); (case side5 => exact rCx0 (Kd.C_below HR1_2.out HB.out)); (case side6 => exact HC1_2.out); rintro e w23 ⟨rfl, hb⟩; replace BK311 := kbx0 BK311 hb; replace BK312 := kbx0 BK312 hb; replace HB := m_ (below_step (be2x0 HB.out GE311.out GE312.out) hb); (try clear hb); (try clear hb2); (try clear hk); (try clear hi)))
   go_ret
   exact ⟨by first | rfl | (simp [errW_none, errW_some] <;> rfl) | (simp [*, errW_none, errW_some] <;> rfl), be2x0 HB.out GE311.out GE312.out⟩
 ·replace c4 := Bool.eq_false_iff.mpr c4
  subst c4
  have H1 : (some false) = some r := by rw [if_neg (show ¬ (false = true) by decide)] at H; exact H
  clear H
  have H := H1
  clear H1
  obtain rfl := Option.some.inj H
  go_enter Try.func40, Try.ntmps40
  go_wp2_with (first | ((with_reducible refine gate_dst (N := 2) rfl ?_); refine bxx0 2 41 #[.int .i64 a0_0, .int .i64 a0_1, .int .i64 a0_2, .slice A0_3 l0_3.length c0_3, .slice A0_4 l0_4.length c0_4, .slice A0_5 l0_5.length c0_5] (be0x0 HB.out) (below_size (be0x0 HB.out)) ?_; clear HB; intro gb311 w24 BK311 HB GE311 hb hg; clear hb hg) | ((with_reducible refine gate_dst (N := 3) rfl ?_); refine bxx0 3 45 #[.slice A1_0 l1_0.length c1_0, .slice A1_1 l1_1.length c1_1, .slice A1_2 l1_2.length c1_2, .int .i64 a1_3, .int .i64 a1_4, .int .i64 a1_5, .int .i64 a1_6, .int .i64 a1_7] (be1x0 HB.out GE311.out) (below_size (be1x0 HB.out GE311.out)) ?_; clear HB; intro gb312 w25 BK312 HB GE312 hb hg; have NB311_312 := nbx0 BK311 hg; have NB312_311 := ncx0 BK311 hg; replace BK311 := kbx0 BK311 hb; clear hb hg; have hnb26 := NB311_312.out; have hnc26 := NB312_311.out; obtain ⟨hcz27_0, hcz27_1, hcz27_2, hcz27_3, hcz27_4, hcz27_5, hfz27_0, hfz27_1, hfz27_2, hfz27_3, hfz27_4, hfz27_5⟩ := cf6x0 BK311.out) | ((with_reducible refine gate_callee (f := 67) rfl ?_); refine gLx0 (some 6) Try.func67 #[.agg #[.int .i64 a0_0, .int .i64 a0_1, .int .i64 a0_2, .slice A0_3 l0_3.length c0_3, .slice A0_4 l0_4.length c0_4, .slice A0_5 l0_5.length c0_5]] ?_; (with_reducible refine (impl_IsModel.calls k a0_0 a0_1 a0_2 _ _ l0_3 _ _ l0_4 _ _ l0_5 false _ ?side1 ?side2 ?side3 ?side4 ?side5 ?side6 A3.out).mono ?_); (case side1 => exact rCx0 (Kd.C_below HR0_3.out HB.out)); (case side2 => exact HC0_3.out); (case side3 => exact rCx0 (Kd.C_below HR0_4.out HB.out)); (case side4 => exact HC0_4.out); (case side5 => exact rCx0 (Kd.C_below HR0_5.out HB.out)); (case side6 => exact HC0_5.out); rintro e w28 ⟨rfl, hb⟩; refine ⟨_, rfl, ?_⟩; replace BK311 := kbx0 BK311 hb; replace BK312 := kbx0 BK312 hb; replace HB := m_ (below_step (be2x0 HB.out GE311.out GE312.out) hb); (try clear hb); (try clear hb2); (try clear hk); (try clear hi)))
  go_ret
  exact ⟨by first | rfl | (simp [errW_none, errW_some] <;> rfl) | (simp [*, errW_none, errW_some] <;> rfl), be2x0 HB.out GE311.out GE312.out⟩

end Go.Proofs.Ytloddihakhgcdaa.PFnExactDestinationSums
