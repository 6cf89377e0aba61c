/- This text is this session's own, not the print's: programs (wip/squeeze.py and others) made it out of what print.sh, or wip/ownprint.py, had written (BYTES set higher), its facts said by short words. -/
import Derived.Test.YtloddihakhgcdaaPFnExactDestinationSumsx0
import Derived.Test.YtloddihakhgcdaaPFnExactDestinationSumsx3
import Derived.Test.YtloddihakhgcdaaPFnExactDestinationSumsx4
import Derived.Test.YtloddihakhgcdaaPFnExactDestinationSumswx0
namespace Go.Proofs.Ytloddihakhgcdaa.PFnExactDestinationSums
open Go.RowKit Go.Proofs.YtloddihakhgcdaaW.PrintWords Go.Proofs.YtloddihakhgcdaaW.PrintLast Go.Proofs.YtloddihakhgcdaaW.PrintMore
attribute [local go_sem] max2_int min2_int max_two min_two max_three min_three max_four min_four   -- for this text's walks alone
set_option linter.unusedVariables false
set_option linter.unusedSimpArgs false

/-! ### spec_acAsked: function 34 -/
def spec_acAsked.f (k : Nat) (a0_0 : Int) (a0_1 : Int) (a0_2 : Int) (l0_3 : List Int) (l0_4 : List Int) (l0_5 : List Int) (l1_0 : List (List Int)) (l1_1 : List Int) (l1_2 : List Int) (a1_3 : Int) (a1_4 : Int) (a1_5 : Int) (a1_6 : Int) (a1_7 : Int) (a2_0 : Int) (l2_1 : List Int) (a3 : Int) : Option (Bool) := (spec_acBoth.f k a0_0 a0_1 a0_2 l0_3 l0_4 l0_5 l1_0 l1_1 l1_2 a1_3 a1_4 a1_5 a1_6 a1_7).bind fun t202 => (if t202 = true then ((spec_plGood.f k l1_0 l1_1 l1_2 a1_3 a1_4 a1_5 a1_6 a1_7 a2_0 l2_1).bind fun t203 => (if t203 = true then ((spec_plFeasible.f k l1_0 l1_1 l1_2 a1_3 a1_4 a1_5 a1_6 a1_7 a2_0 l2_1).bind fun t204 => (if t204 = true then ((spec_acGrade.f a3).bind fun t205 => (some t205)) else (some false))) else (some false))) else (some false))
theorem spec_acAsked.mono : ∀ a0 a1 a2 a3 a4 a5 a6 a7 a8 a9 a10 a11 a12 a13 a14 a15 a16 k, LeO (spec_acAsked.f k a0 a1 a2 a3 a4 a5 a6 a7 a8 a9 a10 a11 a12 a13 a14 a15 a16) (spec_acAsked.f (k + 1) a0 a1 a2 a3 a4 a5 a6 a7 a8 a9 a10 a11 a12 a13 a14 a15 a16) := by
 intro a0 a1 a2 a3 a4 a5 a6 a7 a8 a9 a10 a11 a12 a13 a14 a15 a16 k
 unfold spec_acAsked.f
 repeat' first
   | (with_reducible exact spec_acBoth.mono _ _ _ _ _ _ _ _ _ _ _ _ _ _ _)
   | (with_reducible exact spec_plFeasible.mono _ _ _ _ _ _ _ _ _ _ _)
   | (with_reducible exact spec_plGood.mono _ _ _ _ _ _ _ _ _ _ _)
   | (with_reducible exact LeO.refl _)
   | (with_reducible exact LeO.none _)
   | (with_reducible refine LeO.ite ?_ ?_)
   | (with_reducible refine LeO.bind ?_ (fun _ => ?_))
   | exact spec_acBoth.mono _ _ _ _ _ _ _ _ _ _ _ _ _ _ _
   | exact spec_plFeasible.mono _ _ _ _ _ _ _ _ _ _ _
   | exact spec_plGood.mono _ _ _ _ _ _ _ _ _ _ _
   | exact LeO.none _
   | refine LeO.ite ?_ ?_
   | refine LeO.bind ?_ (fun _ => ?_)
set_option maxHeartbeats 8000000 in
set_option maxRecDepth 100000 in
theorem spec_acAsked.calls (k : Nat) (a0_0 : Int) (a0_1 : Int) (a0_2 : Int) (A0_3 : Option Addr) (c0_3 : Nat) (l0_3 : List Int) (A0_4 : Option Addr) (c0_4 : Nat) (l0_4 : List Int) (A0_5 : Option Addr) (c0_5 : Nat) (l0_5 : List Int) (A1_0 : Option Addr) (c1_0 : Nat) (l1_0 : List (List Int)) (A1_1 : Option Addr) (c1_1 : Nat) (l1_1 : List Int) (A1_2 : Option Addr) (c1_2 : Nat) (l1_2 : List Int) (a1_3 : Int) (a1_4 : Int) (a1_5 : Int) (a1_6 : Int) (a1_7 : Int) (a2_0 : Int) (A2_1 : Option Addr) (c2_1 : Nat) (l2_1 : List Int) (a3 : Int) (r : Bool) (w : World) (hr0_3 : Kd.C (Kd.int .i64) w A0_3 l0_3.length l0_3) (hc0_3 : l0_3.length ≤ c0_3) (hr0_4 : Kd.C (Kd.int .i64) w A0_4 l0_4.length l0_4) (hc0_4 : l0_4.length ≤ c0_4) (hr0_5 : Kd.C (Kd.int .i64) w A0_5 l0_5.length l0_5) (hc0_5 : l0_5.length ≤ c0_5) (hr1_0 : Kd.C (Kd.slice 3 (Kd.int .i64)) w A1_0 l1_0.length l1_0) (hc1_0 : l1_0.length ≤ c1_0) (hr1_1 : Kd.C (Kd.int .i64) w A1_1 l1_1.length l1_1) (hc1_1 : l1_1.length ≤ c1_1) (hr1_2 : Kd.C (Kd.int .i64) w A1_2 l1_2.length l1_2) (hc1_2 : l1_2.length ≤ c1_2) (hr2_1 : Kd.C (Kd.int .i64) w A2_1 l2_1.length l2_1) (hc2_1 : l2_1.length ≤ c2_1) (h : spec_acAsked.f k a0_0 a0_1 a0_2 l0_3 l0_4 l0_5 l1_0 l1_1 l1_2 a1_3 a1_4 a1_5 a1_6 a1_7 a2_0 l2_1 a3 = some r) :
  Calls Try.prog 34 #[.agg #[.int .i64 a0_0, .int .i64 a0_1, .int .i64 a0_2, .slice A0_3 l0_3.length c0_3, .slice A0_4 l0_4.length c0_4, .slice A0_5 l0_5.length c0_5], .agg #[.slice A1_0 l1_0.length c1_0, .slice A1_1 l1_1.length c1_1, .slice A1_2 l1_2.length c1_2, .int .i64 a1_3, .int .i64 a1_4, .int .i64 a1_5, .int .i64 a1_6, .int .i64 a1_7], .agg #[.int .i64 a2_0, .slice A2_1 l2_1.length c2_1], .int .i64 a3] w fun e w' => e = .returned (.bool r) ∧ Below w.heap.size w w' := by
 have hu41 := Try.underlying41
 have hu45 := Try.underlying45
 have hu47 := Try.underlying47
 have HR0_3 := m_ hr0_3
 have HC0_3 := m_ hc0_3
 clear hr0_3 hc0_3
 have HR0_4 := m_ hr0_4
 have HC0_4 := m_ hc0_4
 clear hr0_4 hc0_4
 have HR0_5 := m_ hr0_5
 have HC0_5 := m_ hc0_5
 clear hr0_5 hc0_5
 have HR1_0 := m_ hr1_0
 have HC1_0 := m_ hc1_0
 clear hr1_0 hc1_0
 have HR1_1 := m_ hr1_1
 have HC1_1 := m_ hc1_1
 clear hr1_1 hc1_1
 have HR1_2 := m_ hr1_2
 have HC1_2 := m_ hc1_2
 clear hr1_2 hc1_2
 have HR2_1 := m_ hr2_1
 have HC2_1 := m_ hc2_1
 clear hr2_1 hc2_1
 have HB := m_ (Below.refl w.heap.size w)
 have H : ((spec_acBoth.f k a0_0 a0_1 a0_2 l0_3 l0_4 l0_5 l1_0 l1_1 l1_2 a1_3 a1_4 a1_5 a1_6 a1_7).bind fun t202 => (if t202 = true then ((spec_plGood.f k l1_0 l1_1 l1_2 a1_3 a1_4 a1_5 a1_6 a1_7 a2_0 l2_1).bind fun t203 => (if t203 = true then ((spec_plFeasible.f k l1_0 l1_1 l1_2 a1_3 a1_4 a1_5 a1_6 a1_7 a2_0 l2_1).bind fun t204 => (if t204 = true then ((spec_acGrade.f a3).bind fun t205 => (some t205)) else (some false))) else (some false))) else (some false))) = some r := h
 clear h
 replace H := Option.bind_eq_some_iff.mp H
 obtain ⟨t202, A50, H⟩ := H
 have A5 := m_ A50
 clear A50
 by_cases c6 : t202 = true
 ·subst c6
  have H1 : ((spec_plGood.f k l1_0 l1_1 l1_2 a1_3 a1_4 a1_5 a1_6 a1_7 a2_0 l2_1).bind fun t203 => (if t203 = true then ((spec_plFeasible.f k l1_0 l1_1 l1_2 a1_3 a1_4 a1_5 a1_6 a1_7 a2_0 l2_1).bind fun t204 => (if t204 = true then ((spec_acGrade.f a3).bind fun t205 => (some t205)) else (some false))) else (some false))) = some r := by rw [if_pos rfl] at H; exact H
  clear H
  have H := H1
  clear H1
  replace H := Option.bind_eq_some_iff.mp H
  obtain ⟨t203, A70, H⟩ := H
  have A7 := m_ A70
  clear A70
  by_cases c8 : t203 = true
  ·subst c8
   have H1 : ((spec_plFeasible.f k l1_0 l1_1 l1_2 a1_3 a1_4 a1_5 a1_6 a1_7 a2_0 l2_1).bind fun t204 => (if t204 = true then ((spec_acGrade.f a3).bind fun t205 => (some t205)) else (some false))) = some r := by rw [if_pos rfl] at H; exact H
   clear H
   have H := H1
   clear H1
   replace H := Option.bind_eq_some_iff.mp H
   obtain ⟨t204, A90, H⟩ := H
   have A9 := m_ A90
   clear A90
   by_cases c10 : t204 = true
   ·subst c10
    have H1 : ((spec_acGrade.f a3).bind fun t205 => (some t205)) = some r := by rw [if_pos rfl] at H; exact H
    clear H
    have H := H1
    clear H1
    replace H := Option.bind_eq_some_iff.mp H
    obtain ⟨t205, A110, H⟩ := H
    have A11 := m_ A110
    clear A110
    obtain rfl := Option.some.inj H
    go_enter Try.func34, Try.ntmps34
    go_wp2_with (first | ((with_reducible refine gate_dst (N := 4) rfl ?_); refine bxx0 4 41 #[.int .i64 a0_0, .int .i64 a0_1, .int .i64 a0_2, .slice A0_3 l0_3.length c0_3, .slice A0_4 l0_4.length c0_4, .slice A0_5 l0_5.length c0_5] (be0x0 HB.out) (below_size (be0x0 HB.out)) ?_; clear HB; intro gb199 w12 BK199 HB GE199 hb hg; clear hb hg) | ((with_reducible refine gate_dst (N := 5) rfl ?_); refine bxx0 5 45 #[.slice A1_0 l1_0.length c1_0, .slice A1_1 l1_1.length c1_1, .slice A1_2 l1_2.length c1_2, .int .i64 a1_3, .int .i64 a1_4, .int .i64 a1_5, .int .i64 a1_6, .int .i64 a1_7] (be1x0 HB.out GE199.out) (below_size (be1x0 HB.out GE199.out)) ?_; clear HB; intro gb200 w13 BK200 HB GE200 hb hg; have NB199_200 := nbx0 BK199 hg; have NB200_199 := ncx0 BK199 hg; replace BK199 := kbx0 BK199 hb; clear hb hg) | ((with_reducible refine gate_dst (N := 6) rfl ?_); refine bxx0 6 47 #[.int .i64 a2_0, .slice A2_1 l2_1.length c2_1] (be2x0 HB.out GE199.out GE200.out) (below_size (be2x0 HB.out GE199.out GE200.out)) ?_; clear HB; intro gb201 w14 BK201 HB GE201 hb hg; have NB199_201 := nbx0 BK199 hg; have NB201_199 := ncx0 BK199 hg; replace BK199 := kbx0 BK199 hb; have NB200_201 := nbx0 BK200 hg; have NB201_200 := ncx0 BK200 hg; replace BK200 := kbx0 BK200 hb; clear hb hg; have hnb15 := NB199_200.out; have hnc15 := NB200_199.out; have hnb16 := NB199_201.out; have hnc16 := NB201_199.out; obtain ⟨hcz17_0, hcz17_1, hcz17_2, hcz17_3, hcz17_4, hcz17_5, hfz17_0, hfz17_1, hfz17_2, hfz17_3, hfz17_4, hfz17_5⟩ := cf6x0 BK199.out; have hnb18 := NB200_201.out; have hnc18 := NB201_200.out; obtain ⟨hcz19_0, hcz19_1, hcz19_2, hcz19_3, hcz19_4, hcz19_5, hcz19_6, hcz19_7, hfz19_0, hfz19_1, hfz19_2, hfz19_3, hfz19_4, hfz19_5, hfz19_6, hfz19_7⟩ := cf8x0 BK200.out) | ((with_reducible refine gate_callee (f := 63) rfl ?_); refine gLx0 (some 11) Try.func63 #[.agg #[.int .i64 a0_0, .int .i64 a0_1, .int .i64 a0_2, .slice A0_3 l0_3.length c0_3, .slice A0_4 l0_4.length c0_4, .slice A0_5 l0_5.length c0_5], .agg #[.slice A1_0 l1_0.length c1_0, .slice A1_1 l1_1.length c1_1, .slice A1_2 l1_2.length c1_2, .int .i64 a1_3, .int .i64 a1_4, .int .i64 a1_5, .int .i64 a1_6, .int .i64 a1_7]] ?_; (with_reducible refine (spec_acBoth.calls k a0_0 a0_1 a0_2 _ _ l0_3 _ _ l0_4 _ _ l0_5 _ _ l1_0 _ _ l1_1 _ _ l1_2 a1_3 a1_4 a1_5 a1_6 a1_7 true _ ?side1 ?side2 ?side3 ?side4 ?side5 ?side6 ?side7 ?side8 ?side9 ?side10 ?side11 ?side12 A5.out).mono ?_); (case side1 => exact rCx0 (Kd.C_below HR0_3.out HB.out)); (case side2 => exact HC0_3.out); (case side3 => exact rCx0 (Kd.C_below HR0_4.out HB.out)); (case side4 => exact HC0_4.out); (case side5 => exact rCx0 (Kd.C_below HR0_5.out HB.out)); (case side6 => exact HC0_5.out); (case side7 => exact rCx0 (Kd.C_below HR1_0.out HB.out)); (case side8 => exact HC1_0.out); (case side9 => exact rCx0 (Kd.C_below HR1_1.out HB.out)); (case side10 => exact HC1_1.out); (case side11 => exact rCx0 (Kd.C_below HR1_2.out HB.out)); (case side12 => exact HC1_2.out); rintro e w20 ⟨rfl, hb⟩; refine ⟨_, rfl, ?_⟩; replace BK199 := kbx0 BK199 hb; replace BK200 := kbx0 BK200 hb; replace BK201 := kbx0 BK201 hb; replace HB := m_ (below_step (be3x0 HB.out GE199.out GE200.out GE201.out) hb); (try clear hb); (try clear hb2); (try clear hk); (try clear hi); obtain ⟨hcz21_0, hcz21_1, hcz21_2, hcz21_3, hcz21_4, hcz21_5, hcz21_6, hcz21_7, hfz21_0, hfz21_1, hfz21_2, hfz21_3, hfz21_4, hfz21_5, hfz21_6, hfz21_7⟩ := cf8x0 BK200.out; obtain ⟨hcz22_0, hcz22_1, hfz22_0, hfz22_1⟩ := cf2x0 BK201.out) | (go_at_call 64; (with_reducible refine (spec_plGood.calls k _ _ l1_0 _ _ l1_1 _ _ l1_2 a1_3 a1_4 a1_5 a1_6 a1_7 a2_0 _ _ l2_1 true _ ?side1 ?side2 ?side3 ?side4 ?side5 ?side6 ?side7 ?side8 A7.out).mono ?_); (case side1 => exact rCx0 (Kd.C_below HR1_0.out HB.out)); (case side2 => exact HC1_0.out); (case side3 => exact rCx0 (Kd.C_below HR1_1.out HB.out)); (case side4 => exact HC1_1.out); (case side5 => exact rCx0 (Kd.C_below HR1_2.out HB.out)); (case side6 => exact HC1_2.out); (case side7 => exact rCx0 (Kd.C_below HR2_1.out HB.out)); (case side8 => exact HC2_1.out); rintro e w23 ⟨rfl, hb⟩; replace BK199 := kbx0 BK199 hb; replace BK200 := kbx0 BK200 hb; replace BK201 := kbx0 BK201 hb; replace HB := m_ (below_step (be3x0 HB.out GE199.out GE200.out GE201.out) hb); (try clear hb); (try clear hb2); (try clear hk); (try clear hi); obtain ⟨hcz24_0, hcz24_1, hcz24_2, hcz24_3, hcz24_4, hcz24_5, hcz24_6, hcz24_7, hfz24_0, hfz24_1, hfz24_2, hfz24_3, hfz24_4, hfz24_5, hfz24_6, hfz24_7⟩ := cf8x0 BK200.out; obtain ⟨hcz25_0, hcz25_1, hfz25_0, hfz25_1⟩ := cf2x0 BK201.out) | (go_at_call 65; (with_reducible refine (spec_plFeasible.calls k _ _ l1_0 _ _ l1_1 _ _ l1_2 a1_3 a1_4 a1_5 a1_6 a1_7 a2_0 _ _ l2_1 true _ ?side1 ?side2 ?side3 ?side4 ?side5 ?side6 ?side7 ?side8 A9.out).mono ?_); (case side1 => exact rCx0 (Kd.C_below HR1_0.out HB.out)); (case side2 => exact HC1_0.out); (case side3 => exact rCx0 (Kd.C_below HR1_1.out HB.out)); (case side4 => exact HC1_1.out); (case side5 => exact rCx0 (Kd.C_below HR1_2.out HB.out)); (case side6 => exact HC1_2.out); (case side7 => exact rCx0 (Kd.C_below HR2_1.out HB.out)); (case side8 => exact HC2_1.out); rintro e w26 ⟨rfl, hb⟩; replace BK199 := kbx0 BK199 hb; replace BK200 := kbx0 BK200 hb; replace BK201 := kbx0 BK201 hb; replace HB := m_ (below_step (be3x0 HB.out GE199.out GE200.out GE201.out) hb); (try clear hb); (try clear hb2); (try clear hk); (try clear hi)) | (go_at_call 66; (with_reducible refine (spec_acGrade.calls a3 t205 _ A11.out).mono ?_); rintro e w' ⟨rfl, ⟨nd, rfl⟩⟩))
    go_ret
    exact ⟨by first | rfl | (simp [errW_none, errW_some] <;> rfl) | (simp [*, errW_none, errW_some] <;> rfl), be3x0 HB.out GE199.out GE200.out GE201.out⟩
   ·replace c10 := Bool.eq_false_iff.mpr c10
    subst c10
    have H1 : (some false) = some r := by rw [if_neg (show ¬ (false = true) by decide)] at H; exact H
    clear H
    have H := H1
    clear H1
    obtain rfl := Option.some.inj H
    go_enter Try.func34, Try.ntmps34
    go_wp2_with (first | ((with_reducible refine gate_dst (N := 4) rfl ?_); refine bxx0 4 41 #[.int .i64 a0_0, .int .i64 a0_1, .int .i64 a0_2, .slice A0_3 l0_3.length c0_3, .slice A0_4 l0_4.length c0_4, .slice A0_5 l0_5.length c0_5] (be0x0 HB.out) (below_size (be0x0 HB.out)) ?_; clear HB; intro gb199 w27 BK199 HB GE199 hb hg; clear hb hg) | ((with_reducible refine gate_dst (N := 5) rfl ?_); refine bxx0 5 45 #[.slice A1_0 l1_0.length c1_0, .slice A1_1 l1_1.length c1_1, .slice A1_2 l1_2.length c1_2, .int .i64 a1_3, .int .i64 a1_4, .int .i64 a1_5, .int .i64 a1_6, .int .i64 a1_7] (be1x0 HB.out GE199.out) (below_size (be1x0 HB.out GE199.out)) ?_; clear HB; intro gb200 w28 BK200 HB GE200 hb hg; have NB199_200 := nbx0 BK199 hg; have NB200_199 := ncx0 BK199 hg; replace BK199 := kbx0 BK199 hb; clear hb hg) | ((with_reducible refine gate_dst (N := 6) rfl ?_); refine bxx0 6 47 #[.int .i64 a2_0, .slice A2_1 l2_1.length c2_1] (be2x0 HB.out GE199.out GE200.out) (below_size (be2x0 HB.out GE199.out GE200.out)) ?_; clear HB; intro gb201 w29 BK201 HB GE201 hb hg; have NB199_201 := nbx0 BK199 hg; have NB201_199 := ncx0 BK199 hg; replace BK199 := kbx0 BK199 hb; have NB200_201 := nbx0 BK200 hg; have NB201_200 := ncx0 BK200 hg; replace BK200 := kbx0 BK200 hb; clear hb hg; have hnb30 := NB199_200.out; have hnc30 := NB200_199.out; have hnb31 := NB199_201.out; have hnc31 := NB201_199.out; obtain ⟨hcz32_0, hcz32_1, hcz32_2, hcz32_3, hcz32_4, hcz32_5, hfz32_0, hfz32_1, hfz32_2, hfz32_3, hfz32_4, hfz32_5⟩ := cf6x0 BK199.out; have hnb33 := NB200_201.out; have hnc33 := NB201_200.out; obtain ⟨hcz34_0, hcz34_1, hcz34_2, hcz34_3, hcz34_4, hcz34_5, hcz34_6, hcz34_7, hfz34_0, hfz34_1, hfz34_2, hfz34_3, hfz34_4, hfz34_5, hfz34_6, hfz34_7⟩ := cf8x0 BK200.out) | ((with_reducible refine gate_callee (f := 63) rfl ?_); refine gLx0 (some 11) Try.func63 #[.agg #[.int .i64 a0_0, .int .i64 a0_1, .int .i64 a0_2, .slice A0_3 l0_3.length c0_3, .slice A0_4 l0_4.length c0_4, .slice A0_5 l0_5.length c0_5], .agg #[.slice A1_0 l1_0.length c1_0, .slice A1_1 l1_1.length c1_1, .slice A1_2 l1_2.length c1_2, .int .i64 a1_3, .int .i64 a1_4, .int .i64 a1_5, .int .i64 a1_6, .int .i64 a1_7]] ?_; (with_reducible refine (spec_acBoth.calls k a0_0 a0_1 a0_2 _ _ l0_3 _ _ l0_4 _ _ l0_5 _ _ l1_0 _ _ l1_1 _ _ l1_2 a1_3 a1_4 a1_5 a1_6 a1_7 true _ ?side1 ?side2 ?side3 ?side4 ?side5 ?side6 ?side7 ?side8 ?side9 ?side10 ?side11 ?side12 A5.out).mono ?_); (case side1 => exact rCx0 (Kd.C_below HR0_3.out HB.out)); (case side2 => exact HC0_3.out); (case side3 => exact rCx0 (Kd.C_below HR0_4.out HB.out)); (case side4 => exact HC0_4.out); (case side5 => exact rCx0 (Kd.C_below HR0_5.out HB.out)); (case side6 => exact HC0_5.out); (case side7 => exact rCx0 (Kd.C_below HR1_0.out HB.out)); (case side8 => exact HC1_0.out); (case side9 => exact rCx0 (Kd.C_below HR1_1.out HB.out)); (case side10 => exact HC1_1.out); (case side11 => exact rCx0 (Kd.C_below HR1_2.out HB.out)); (case side12 => exact HC1_2.out); rintro e w35 ⟨rfl, hb⟩; refine ⟨_, rfl, ?_⟩; replace BK199 := kbx0 BK199 hb; replace BK200 := kbx0 BK200 hb; replace BK201 := kbx0 BK201 hb; replace HB := m_ (below_step (be3x0 HB.out GE199.out GE200.out GE201.out) hb); (try clear hb); (try clear hb2); (try clear hk); (try clear hi); obtain ⟨hcz36_0, hcz36_1, hcz36_2, hcz36_3, hcz36_4, hcz36_5, hcz36_6, hcz36_7, hfz36_0, hfz36_1, hfz36_2, hfz36_3, hfz36_4, hfz36_5, hfz36_6, hfz36_7⟩ := cf8x0 BK200.out; obtain ⟨hcz37_0, hcz37_1, hfz37_0, hfz37_1⟩ := cf2x0 BK201.out) | (go_at_call 64; (with_reducible refine (spec_plGood.calls k _ _ l1_0 _ _ l1_1 _ _ l1_2 a1_3 a1_4 a1_5 a1_6 a1_7 a2_0 _ _ l2_1 true _ ?side1 ?side2 ?side3 ?side4 ?side5 ?side6 ?side7 ?side8 A7.out).mono ?_); (case side1 => exact rCx0 (Kd.C_below HR1_0.out HB.out)); (case side2 => exact HC1_0.out); (case side3 => exact rCx0 (Kd.C_below HR1_1.out HB.out)); (case side4 => exact HC1_1.out); (case side5 => exact rCx0 (Kd.C_below HR1_2.out HB.out)); (case side6 => exact HC1_2.out); (case side7 => exact rCx0 (Kd.C_below HR2_1.out HB.out)); (case side8 => exact HC2_1.out); rintro e w38 ⟨rfl, hb⟩; replace BK199 := kbx0 BK199 hb; replace BK200 := kbx0 BK200 hb; replace BK201 := kbx0 BK201 hb; replace HB := m_ (below_step (be3x0 HB.out GE199.out GE200.out GE201.out) hb); (try clear hb); (try clear hb2); (try clear hk); (try clear hi); obtain ⟨hcz39_0, hcz39_1, hcz39_2, hcz39_3, hcz39_4, hcz39_5, hcz39_6, hcz39_7, hfz39_0, hfz39_1, hfz39_2, hfz39_3, hfz39_4, hfz39_5, hfz39_6, hfz39_7⟩ := cf8x0 BK200.out; obtain ⟨hcz40_0, hcz40_1, hfz40_0, hfz40_1⟩ := cf2x0 BK201.out) | (go_at_call 65; (with_reducible refine (spec_plFeasible.calls k _ _ l1_0 _ _ l1_1 _ _ l1_2 a1_3 a1_4 a1_5 a1_6 a1_7 a2_0 _ _ l2_1 false _ ?side1 ?side2 ?side3 ?side4 ?side5 ?side6 ?side7 ?side8 A9.out).mono ?_); (case side1 => exact rCx0 (Kd.C_below HR1_0.out HB.out)); (case side2 => exact HC1_0.out); (case side3 => exact rCx0 (Kd.C_below HR1_1.out HB.out)); (case side4 => exact HC1_1.out); (case side5 => exact rCx0 (Kd.C_below HR1_2.out HB.out)); (case side6 => exact HC1_2.out); (case side7 => exact rCx0 (Kd.C_below HR2_1.out HB.out)); (case side8 => exact HC2_1.out); rintro e w41 ⟨rfl, hb⟩; replace BK199 := kbx0 BK199 hb; replace BK200 := kbx0 BK200 hb; replace BK201 := kbx0 BK201 hb; replace HB := m_ (below_step (be3x0 HB.out GE199.out GE200.out GE201.out) hb); (try clear hb); (try clear hb2); (try clear hk); (try clear hi)))
    go_ret
    exact ⟨by first | rfl | (simp [errW_none, errW_some] <;> rfl) | (simp [*, errW_none, errW_some] <;> rfl), be3x0 HB.out GE199.out GE200.out GE201.out⟩
  ·replace c8 := Bool.eq_false_iff.mpr c8
   subst c8
   have H1 : (some false) = some r := by rw [if_neg (show ¬ (false = true) by decide)] at H; exact H
   clear H
   have H := H1
   clear H1
   obtain rfl := Option.some.inj H
   go_enter Try.func34, Try.ntmps34
   go_wp2_with (first | ((with_reducible refine gate_dst (N := 4) rfl ?_); refine bxx0 4 41 #[.int .i64 a0_0, .int .i64 a0_1, .int .i64 a0_2, .slice A0_3 l0_3.length c0_3, .slice A0_4 l0_4.length c0_4, .slice A0_5 l0_5.length c0_5] (be0x0 HB.out) (below_size (be0x0 HB.out)) ?_; clear HB; intro gb199 w42 BK199 HB GE199 hb hg; clear hb hg) | ((with_reducible refine gate_dst (N := 5) rfl ?_); refine bxx0 5 45 #[.slice A1_0 l1_0.length c1_0, .slice A1_1 l1_1.length c1_1, .slice A1_2 l1_2.length c1_2, .int .i64 a1_3, .int .i64 a1_4, .int .i64 a1_5, .int .i64 a1_6, .int .i64 a1_7] (be1x0 HB.out GE199.out) (below_size (be1x0 HB.out GE199.out)) ?_; clear HB; intro gb200 w43 BK200 HB GE200 hb hg; have NB199_200 := nbx0 BK199 hg; have NB200_199 := ncx0 BK199 hg; replace BK199 := kbx0 BK199 hb; clear hb hg) | ((with_reducible refine gate_dst (N := 6) rfl ?_); refine bxx0 6 47 #[.int .i64 a2_0, .slice A2_1 l2_1.length c2_1] (be2x0 HB.out GE199.out GE200.out) (below_size (be2x0 HB.out GE199.out GE200.out)) ?_; clear HB; intro gb201 w44 BK201 HB GE201 hb hg; have NB199_201 := nbx0 BK199 hg; have NB201_199 := ncx0 BK199 hg; replace BK199 := kbx0 BK199 hb; have NB200_201 := nbx0 BK200 hg; have NB201_200 := ncx0 BK200 hg; replace BK200 := kbx0 BK200 hb; clear hb hg; have hnb45 := NB199_200.out; have hnc45 := NB200_199.out; have hnb46 := NB199_201.out; have hnc46 := NB201_199.out; obtain ⟨hcz47_0, hcz47_1, hcz47_2, hcz47_3, hcz47_4, hcz47_5, hfz47_0, hfz47_1, hfz47_2, hfz47_3, hfz47_4, hfz47_5⟩ := cf6x0 BK199.out; have hnb48 := NB200_201.out; have hnc48 := NB201_200.out; obtain ⟨hcz49_0, hcz49_1, hcz49_2, hcz49_3, hcz49_4, hcz49_5, hcz49_6, hcz49_7, hfz49_0, hfz49_1, hfz49_2, hfz49_3, hfz49_4, hfz49_5, hfz49_6, hfz49_7⟩ := cf8x0 BK200.out) | ((with_reducible refine gate_callee (f := 63) rfl ?_); refine gLx0 (some 11) Try.func63 #[.agg #[.int .i64 a0_0, .int .i64 a0_1, .int .i64 a0_2, .slice A0_3 l0_3.length c0_3, .slice A0_4 l0_4.length c0_4, .slice A0_5 l0_5.length c0_5], .agg #[.slice A1_0 l1_0.length c1_0, .slice A1_1 l1_1.length c1_1, .slice A1_2 l1_2.length c1_2, .int .i64 a1_3, .int .i64 a1_4, .int .i64 a1_5, .int .i64 a1_6, .int .i64 a1_7]] ?_; (with_reducible refine (spec_acBoth.calls k a0_0 a0_1 a0_2 _ _ l0_3 _ _ l0_4 _ _ l0_5 _ _ l1_0 _ _ l1_1 _ _ l1_2 a1_3 a1_4 a1_5 a1_6 a1_7 true _ ?side1 ?side2 ?side3 ?side4 ?side5 ?side6 ?side7 ?side8 ?side9 ?side10 ?side11 ?side12 A5.out).mono ?_); (case side1 => exact rCx0 (Kd.C_below HR0_3.out HB.out)); (case side2 => exact HC0_3.out); (case side3 => exact rCx0 (Kd.C_below HR0_4.out HB.out)); (case side4 => exact HC0_4.out); (case side5 => exact rCx0 (Kd.C_below HR0_5.out HB.out)); (case side6 => exact HC0_5.out); (case side7 => exact rCx0 (Kd.C_below HR1_0.out HB.out)); (case side8 => exact HC1_0.out); (case side9 => exact rCx0 (Kd.C_below HR1_1.out HB.out)); (case side10 => exact HC1_1.out); (case side11 => exact rCx0 (Kd.C_below HR1_2.out HB.out)); (case side12 => exact HC1_2.out); rintro e w50 ⟨rfl, hb⟩; refine ⟨_, rfl, ?_⟩; replace BK199 := kbx0 BK199 hb; replace BK200 := kbx0 BK200 hb; replace BK201 := kbx0 BK201 hb; replace HB := m_ (below_step (be3x0 HB.out GE199.out GE200.out GE201.out) hb); (try clear hb); (try clear hb2); (try clear hk); (try clear hi); obtain ⟨hcz51_0, hcz51_1, hcz51_2, hcz51_3, hcz51_4, hcz51_5, hcz51_6, hcz51_7, hfz51_0, hfz51_1, hfz51_2, hfz51_3, hfz51_4, hfz51_5, hfz51_6, hfz51_7⟩ := cf8x0 BK200.out; obtain ⟨hcz52_0, hcz52_1, hfz52_0, hfz52_1⟩ := cf2x0 BK201.out) | (go_at_call 64; (with_reducible refine (spec_plGood.calls k _ _ l1_0 _ _ l1_1 _ _ l1_2 a1_3 a1_4 a1_5 a1_6 a1_7 a2_0 _ _ l2_1 false _ ?side1 ?side2 ?side3 ?side4 ?side5 ?side6 ?side7 ?side8 A7.out).mono ?_); (case side1 => exact rCx0 (Kd.C_below HR1_0.out HB.out)); (case side2 => exact HC1_0.out); (case side3 => exact rCx0 (Kd.C_below HR1_1.out HB.out)); (case side4 => exact HC1_1.out); (case side5 => exact rCx0 (Kd.C_below HR1_2.out HB.out)); (case side6 => exact HC1_2.out); (case side7 => exact rCx0 (Kd.C_below HR2_1.out HB.out)); (case side8 => exact HC2_1.out); rintro e w53 ⟨rfl, hb⟩; replace BK199 := kbx0 BK199 hb; replace BK200 := kbx0 BK200 hb; replace BK201 := kbx0 BK201 hb; replace HB := m_ (below_step (be3x0 HB.out GE199.out GE200.out GE201.out) hb); (try clear hb); (try clear hb2); (try clear hk); (try clear hi)))
   go_ret
   exact ⟨by first | rfl | (simp [errW_none, errW_some] <;> rfl) | (simp [*, errW_none, errW_some] <;> rfl), be3x0 HB.out GE199.out GE200.out GE201.out⟩
 ·replace c6 := Bool.eq_false_iff.mpr c6
  subst c6
  have H1 : (some false) = some r := by rw [if_neg (show ¬ (false = true) by decide)] at H; exact H
  clear H
  have H := H1
  clear H1
  obtain rfl := Option.some.inj H
  go_enter Try.func34, Try.ntmps34
  go_wp2_with (first | ((with_reducible refine gate_dst (N := 4) rfl ?_); refine bxx0 4 41 #[.int .i64 a0_0, .int .i64 a0_1, .int .i64 a0_2, .slice A0_3 l0_3.length c0_3, .slice A0_4 l0_4.length c0_4, .slice A0_5 l0_5.length c0_5] (be0x0 HB.out) (below_size (be0x0 HB.out)) ?_; clear HB; intro gb199 w54 BK199 HB GE199 hb hg; clear hb hg) | ((with_reducible refine gate_dst (N := 5) rfl ?_); refine bxx0 5 45 #[.slice A1_0 l1_0.length c1_0, .slice A1_1 l1_1.length c1_1, .slice A1_2 l1_2.length c1_2, .int .i64 a1_3, .int .i64 a1_4, .int .i64 a1_5, .int .i64 a1_6, .int .i64 a1_7] (be1x0 HB.out GE199.out) (below_size (be1x0 HB.out GE199.out)) ?_; clear HB; intro gb200 w55 BK200 HB GE200 hb hg; have NB199_200 := nbx0 BK199 hg; have NB200_199 := ncx0 BK199 hg; replace BK199 := kbx0 BK199 hb; clear hb hg) | ((with_reducible refine gate_dst (N := 6) rfl ?_); refine bxx0 6 47 #[.int .i64 a2_0, .slice A2_1 l2_1.length c2_1] (be2x0 HB.out GE199.out GE200.out) (below_size (be2x0 HB.out GE199.out GE200.out)) ?_; clear HB; intro gb201 w56 BK201 HB GE201 hb hg; have NB199_201 := nbx0 BK199 hg; have NB201_199 := ncx0 BK199 hg; replace BK199 := kbx0 BK199 hb; have NB200_201 := nbx0 BK200 hg; have NB201_200 := ncx0 BK200 hg; replace BK200 := kbx0 BK200 hb; clear hb hg; have hnb57 := NB199_200.out; have hnc57 := NB200_199.out; have hnb58 := NB199_201.out; have hnc58 := NB201_199.out; obtain ⟨hcz59_0, hcz59_1, hcz59_2, hcz59_3, hcz59_4, hcz59_5, hfz59_0, hfz59_1, hfz59_2, hfz59_3, hfz59_4, hfz59_5⟩ := cf6x0 BK199.out; have hnb60 := NB200_201.out; have hnc60 := NB201_200.out; obtain ⟨hcz61_0, hcz61_1, hcz61_2, hcz61_3, hcz61_4, hcz61_5, hcz61_6, hcz61_7, hfz61_0, hfz61_1, hfz61_2, hfz61_3, hfz61_4, hfz61_5, hfz61_6, hfz61_7⟩ := cf8x0 BK200.out) | ((with_reducible refine gate_callee (f := 63) rfl ?_); refine gLx0 (some 11) Try.func63 #[.agg #[.int .i64 a0_0, .int .i64 a0_1, .int .i64 a0_2, .slice A0_3 l0_3.length c0_3, .slice A0_4 l0_4.length c0_4, .slice A0_5 l0_5.length c0_5], .agg #[.slice A1_0 l1_0.length c1_0, .slice A1_1 l1_1.length c1_1, .slice A1_2 l1_2.length c1_2, .int .i64 a1_3, .int .i64 a1_4, .int .i64 a1_5, .int .i64 a1_6, .int .i64 a1_7]] ?_; (with_reducible refine (spec_acBoth.calls k a0_0 a0_1 a0_2 _ _ l0_3 _ _ l0_4 _ _ l0_5 _ _ l1_0 _ _ l1_1 _ _ l1_2 a1_3 a1_4 a1_5 a1_6 a1_7 false _ ?side1 ?side2 ?side3 ?side4 ?side5 ?side6 ?side7 ?side8 ?side9 ?side10 ?side11 ?side12 A5.out).mono ?_); (case side1 => exact rCx0 (Kd.C_below HR0_3.out HB.out)); (case side2 => exact HC0_3.out); (case side3 => exact rCx0 (Kd.C_below HR0_4.out HB.out)); (case side4 => exact HC0_4.out); (case side5 => exact rCx0 (Kd.C_below HR0_5.out HB.out)); (case side6 => exact HC0_5.out); (case side7 => exact rCx0 (Kd.C_below HR1_0.out HB.out)); (case side8 => exact HC1_0.out); (case side9 => exact rCx0 (Kd.C_below HR1_1.out HB.out)); (case side10 => exact HC1_1.out); (case side11 => exact rCx0 (Kd.C_below HR1_2.out HB.out)); (case side12 => exact HC1_2.out); rintro e w62 ⟨rfl, hb⟩; refine ⟨_, rfl, ?_⟩; replace BK199 := kbx0 BK199 hb; replace BK200 := kbx0 BK200 hb; replace BK201 := kbx0 BK201 hb; replace HB := m_ (below_step (be3x0 HB.out GE199.out GE200.out GE201.out) hb); (try clear hb); (try clear hb2); (try clear hk); (try clear hi)))
  go_ret
  exact ⟨by first | rfl | (simp [errW_none, errW_some] <;> rfl) | (simp [*, errW_none, errW_some] <;> rfl), be3x0 HB.out GE199.out GE200.out GE201.out⟩

/-! ### spec_acTo: function 50 -/
def spec_acTo.f (a0_0 : Int) (a0_1 : Int) (a0_2 : Int) (l0_3 : List Int) (l0_4 : List Int) (l0_5 : List Int) (l1_0 : List (List Int)) (l1_1 : List Int) (l1_2 : List Int) (a1_3 : Int) (a1_4 : Int) (a1_5 : Int) (a1_6 : Int) (a1_7 : Int) (a2 : Int) (a3 : Int) : Option (Int) := if 0 ≤ a2 then (if a2 < (l1_2.length : Int) then (if (rd l1_2 a2) > 0 then (some 0) else (if a2 < (l0_4.length : Int) then (if (rd l0_4 a2) ≥ a3 then (some 1) else (some 2)) else (none))) else (none)) else (none)
set_option maxHeartbeats 8000000 in
set_option maxRecDepth 100000 in
theorem spec_acTo.calls (a0_0 : Int) (a0_1 : Int) (a0_2 : Int) (A0_3 : Option Addr) (c0_3 : Nat) (l0_3 : List Int) (A0_4 : Option Addr) (c0_4 : Nat) (l0_4 : List Int) (A0_5 : Option Addr) (c0_5 : Nat) (l0_5 : List Int) (A1_0 : Option Addr) (c1_0 : Nat) (l1_0 : List (List Int)) (A1_1 : Option Addr) (c1_1 : Nat) (l1_1 : List Int) (A1_2 : Option Addr) (c1_2 : Nat) (l1_2 : List Int) (a1_3 : Int) (a1_4 : Int) (a1_5 : Int) (a1_6 : Int) (a1_7 : Int) (a2 : Int) (a3 : Int) (r : Int) (w : World) (hr0_3 : Kd.C (Kd.int .i64) w A0_3 l0_3.length l0_3) (hc0_3 : l0_3.length ≤ c0_3) (hr0_4 : Kd.C (Kd.int .i64) w A0_4 l0_4.length l0_4) (hc0_4 : l0_4.length ≤ c0_4) (hr0_5 : Kd.C (Kd.int .i64) w A0_5 l0_5.length l0_5) (hc0_5 : l0_5.length ≤ c0_5) (hr1_0 : Kd.C (Kd.slice 3 (Kd.int .i64)) w A1_0 l1_0.length l1_0) (hc1_0 : l1_0.length ≤ c1_0) (hr1_1 : Kd.C (Kd.int .i64) w A1_1 l1_1.length l1_1) (hc1_1 : l1_1.length ≤ c1_1) (hr1_2 : Kd.C (Kd.int .i64) w A1_2 l1_2.length l1_2) (hc1_2 : l1_2.length ≤ c1_2) (h : spec_acTo.f a0_0 a0_1 a0_2 l0_3 l0_4 l0_5 l1_0 l1_1 l1_2 a1_3 a1_4 a1_5 a1_6 a1_7 a2 a3 = some r) :
  Calls Try.prog 50 #[.agg #[.int .i64 a0_0, .int .i64 a0_1, .int .i64 a0_2, .slice A0_3 l0_3.length c0_3, .slice A0_4 l0_4.length c0_4, .slice A0_5 l0_5.length c0_5], .agg #[.slice A1_0 l1_0.length c1_0, .slice A1_1 l1_1.length c1_1, .slice A1_2 l1_2.length c1_2, .int .i64 a1_3, .int .i64 a1_4, .int .i64 a1_5, .int .i64 a1_6, .int .i64 a1_7], .int .i64 a2, .int .i64 a3] w fun e w' => e = .returned (.int .i64 r) ∧ Below w.heap.size w w' := by
 have hu41 := Try.underlying41
 have hu45 := Try.underlying45
 have HR0_3 := m_ hr0_3
 have HC0_3 := m_ hc0_3
 clear hr0_3 hc0_3
 have HR0_4 := m_ hr0_4
 have HC0_4 := m_ hc0_4
 clear hr0_4 hc0_4
 have HR0_5 := m_ hr0_5
 have HC0_5 := m_ hc0_5
 clear hr0_5 hc0_5
 have HR1_0 := m_ hr1_0
 have HC1_0 := m_ hc1_0
 clear hr1_0 hc1_0
 have HR1_1 := m_ hr1_1
 have HC1_1 := m_ hc1_1
 clear hr1_1 hc1_1
 have HR1_2 := m_ hr1_2
 have HC1_2 := m_ hc1_2
 clear hr1_2 hc1_2
 have HB := m_ (Below.refl w.heap.size w)
 have H : (if 0 ≤ a2 then (if a2 < (l1_2.length : Int) then (if (rd l1_2 a2) > 0 then (some 0) else (if a2 < (l0_4.length : Int) then (if (rd l0_4 a2) ≥ a3 then (some 1) else (some 2)) else (none))) else (none)) else (none)) = some r := h
 clear h
 by_cases c5 : 0 ≤ a2
 ·rw [if_pos c5] at H
  have c5b0 := decide_eq_true c5
  clear c5
  by_cases c6 : a2 < (l1_2.length : Int)
  ·rw [if_pos c6] at H
   have c6b0 := decide_eq_true c6
   clear c6
   by_cases c7 : (rd l1_2 a2) > 0
   ·rw [if_pos c7] at H
    have c7b0 : decide (0 < (rd l1_2 a2)) = true := decide_eq_true c7
    clear c7
    obtain rfl := Option.some.inj H
    go_enter Try.func50, Try.ntmps50
    go_wp2_with (first | ((with_reducible refine gate_dst (N := 4) rfl ?_); refine bxx0 4 41 #[.int .i64 a0_0, .int .i64 a0_1, .int .i64 a0_2, .slice A0_3 l0_3.length c0_3, .slice A0_4 l0_4.length c0_4, .slice A0_5 l0_5.length c0_5] (be0x0 HB.out) (below_size (be0x0 HB.out)) ?_; clear HB; intro gb206 w8 BK206 HB GE206 hb hg; clear hb hg) | ((with_reducible refine gate_dst (N := 5) rfl ?_); refine bxx0 5 45 #[.slice A1_0 l1_0.length c1_0, .slice A1_1 l1_1.length c1_1, .slice A1_2 l1_2.length c1_2, .int .i64 a1_3, .int .i64 a1_4, .int .i64 a1_5, .int .i64 a1_6, .int .i64 a1_7] (be1x0 HB.out GE206.out) (below_size (be1x0 HB.out GE206.out)) ?_; clear HB; intro gb207 w9 BK207 HB GE207 hb hg; have NB206_207 := nbx0 BK206 hg; have NB207_206 := ncx0 BK206 hg; replace BK206 := kbx0 BK206 hb; clear hb hg; have hnb10 := NB207_206.out; have hnc10 := NB206_207.out; obtain ⟨hcz11_0, hcz11_1, hcz11_2, hcz11_3, hcz11_4, hcz11_5, hcz11_6, hcz11_7, hfz11_0, hfz11_1, hfz11_2, hfz11_3, hfz11_4, hfz11_5, hfz11_6, hfz11_7⟩ := cf8x0 BK207.out; obtain ⟨ad208, rfl, hx208_0, p208, q208⟩ := abx0 HB.out HR1_2.out a2))
    go_ret
    exact ⟨by first | rfl | (simp [errW_none, errW_some] <;> rfl) | (simp [*, errW_none, errW_some] <;> rfl), be2x0 HB.out GE206.out GE207.out⟩
   ·rw [if_neg c7] at H
    have c7b0 : decide (0 < (rd l1_2 a2)) = false := decide_eq_false c7
    clear c7
    by_cases c12 : a2 < (l0_4.length : Int)
    ·rw [if_pos c12] at H
     have c12b0 := decide_eq_true c12
     clear c12
     by_cases c13 : (rd l0_4 a2) ≥ a3
     ·rw [if_pos c13] at H
      have c13b0 : decide (a3 ≤ (rd l0_4 a2)) = true := decide_eq_true c13
      clear c13
      obtain rfl := Option.some.inj H
      go_enter Try.func50, Try.ntmps50
      go_wp2_with (first | ((with_reducible refine gate_dst (N := 4) rfl ?_); refine bxx0 4 41 #[.int .i64 a0_0, .int .i64 a0_1, .int .i64 a0_2, .slice A0_3 l0_3.length c0_3, .slice A0_4 l0_4.length c0_4, .slice A0_5 l0_5.length c0_5] (be0x0 HB.out) (below_size (be0x0 HB.out)) ?_; clear HB; intro gb206 w14 BK206 HB GE206 hb hg; clear hb hg) | ((with_reducible refine gate_dst (N := 5) rfl ?_); refine bxx0 5 45 #[.slice A1_0 l1_0.length c1_0, .slice A1_1 l1_1.length c1_1, .slice A1_2 l1_2.length c1_2, .int .i64 a1_3, .int .i64 a1_4, .int .i64 a1_5, .int .i64 a1_6, .int .i64 a1_7] (be1x0 HB.out GE206.out) (below_size (be1x0 HB.out GE206.out)) ?_; clear HB; intro gb207 w15 BK207 HB GE207 hb hg; have NB206_207 := nbx0 BK206 hg; have NB207_206 := ncx0 BK206 hg; replace BK206 := kbx0 BK206 hb; clear hb hg; have hnb16 := NB207_206.out; have hnc16 := NB206_207.out; obtain ⟨hcz17_0, hcz17_1, hcz17_2, hcz17_3, hcz17_4, hcz17_5, hcz17_6, hcz17_7, hfz17_0, hfz17_1, hfz17_2, hfz17_3, hfz17_4, hfz17_5, hfz17_6, hfz17_7⟩ := cf8x0 BK207.out; obtain ⟨ad208, rfl, hx208_0, p208, q208⟩ := abx0 HB.out HR1_2.out a2; obtain ⟨hcz18_0, hcz18_1, hcz18_2, hcz18_3, hcz18_4, hcz18_5, hfz18_0, hfz18_1, hfz18_2, hfz18_3, hfz18_4, hfz18_5⟩ := cf6x0 BK206.out; obtain ⟨ad209, rfl, hx209_0, p209, q209⟩ := abx0 HB.out HR0_4.out a2))
      go_ret
      exact ⟨by first | rfl | (simp [errW_none, errW_some] <;> rfl) | (simp [*, errW_none, errW_some] <;> rfl), be2x0 HB.out GE206.out GE207.out⟩
     ·rw [if_neg c13] at H
      have c13b0 : decide (a3 ≤ (rd l0_4 a2)) = false := decide_eq_false c13
      clear c13
      obtain rfl := Option.some.inj H
      go_enter Try.func50, Try.ntmps50
      go_wp2_with (first | ((with_reducible refine gate_dst (N := 4) rfl ?_); refine bxx0 4 41 #[.int .i64 a0_0, .int .i64 a0_1, .int .i64 a0_2, .slice A0_3 l0_3.length c0_3, .slice A0_4 l0_4.length c0_4, .slice A0_5 l0_5.length c0_5] (be0x0 HB.out) (below_size (be0x0 HB.out)) ?_; clear HB; intro gb206 w19 BK206 HB GE206 hb hg; clear hb hg) | ((with_reducible refine gate_dst (N := 5) rfl ?_); refine bxx0 5 45 #[.slice A1_0 l1_0.length c1_0, .slice A1_1 l1_1.length c1_1, .slice A1_2 l1_2.length c1_2, .int .i64 a1_3, .int .i64 a1_4, .int .i64 a1_5, .int .i64 a1_6, .int .i64 a1_7] (be1x0 HB.out GE206.out) (below_size (be1x0 HB.out GE206.out)) ?_; clear HB; intro gb207 w20 BK207 HB GE207 hb hg; have NB206_207 := nbx0 BK206 hg; have NB207_206 := ncx0 BK206 hg; replace BK206 := kbx0 BK206 hb; clear hb hg; have hnb21 := NB207_206.out; have hnc21 := NB206_207.out; obtain ⟨hcz22_0, hcz22_1, hcz22_2, hcz22_3, hcz22_4, hcz22_5, hcz22_6, hcz22_7, hfz22_0, hfz22_1, hfz22_2, hfz22_3, hfz22_4, hfz22_5, hfz22_6, hfz22_7⟩ := cf8x0 BK207.out; obtain ⟨ad208, rfl, hx208_0, p208, q208⟩ := abx0 HB.out HR1_2.out a2; obtain ⟨hcz23_0, hcz23_1, hcz23_2, hcz23_3, hcz23_4, hcz23_5, hfz23_0, hfz23_1, hfz23_2, hfz23_3, hfz23_4, hfz23_5⟩ := cf6x0 BK206.out; obtain ⟨ad209, rfl, hx209_0, p209, q209⟩ := abx0 HB.out HR0_4.out a2))
      go_ret
      exact ⟨by first | rfl | (simp [errW_none, errW_some] <;> rfl) | (simp [*, errW_none, errW_some] <;> rfl), be2x0 HB.out GE206.out GE207.out⟩
    ·rw [if_neg c12] at H
     exact absurd H (by simp)
  ·rw [if_neg c6] at H
   exact absurd H (by simp)
 ·rw [if_neg c5] at H
  exact absurd H (by simp)

/-! ### spec_moMetal: function 52 -/
def spec_moMetal.f (a0_0 : Int) (a0_1 : Int) (a0_2 : Int) (l0_3 : List Int) (l0_4 : List Int) (l0_5 : List Int) (a1 : Int) : Option (Int) := if 0 ≤ a1 then (if a1 < (l0_3.length : Int) then (if a1 < (l0_4.length : Int) then (some (wrap64 ((rd l0_3 a1) * (rd l0_4 a1)))) else (none)) else (none)) else (none)
set_option maxHeartbeats 8000000 in
set_option maxRecDepth 100000 in
theorem spec_moMetal.calls (a0_0 : Int) (a0_1 : Int) (a0_2 : Int) (A0_3 : Option Addr) (c0_3 : Nat) (l0_3 : List Int) (A0_4 : Option Addr) (c0_4 : Nat) (l0_4 : List Int) (A0_5 : Option Addr) (c0_5 : Nat) (l0_5 : List Int) (a1 : Int) (r : Int) (w : World) (hr0_3 : Kd.C (Kd.int .i64) w A0_3 l0_3.length l0_3) (hc0_3 : l0_3.length ≤ c0_3) (hr0_4 : Kd.C (Kd.int .i64) w A0_4 l0_4.length l0_4) (hc0_4 : l0_4.length ≤ c0_4) (hr0_5 : Kd.C (Kd.int .i64) w A0_5 l0_5.length l0_5) (hc0_5 : l0_5.length ≤ c0_5) (h : spec_moMetal.f a0_0 a0_1 a0_2 l0_3 l0_4 l0_5 a1 = some r) :
  Calls Try.prog 52 #[.agg #[.int .i64 a0_0, .int .i64 a0_1, .int .i64 a0_2, .slice A0_3 l0_3.length c0_3, .slice A0_4 l0_4.length c0_4, .slice A0_5 l0_5.length c0_5], .int .i64 a1] w fun e w' => e = .returned (.int .i64 r) ∧ Below w.heap.size w w' := by
 have hu41 := Try.underlying41
 have HR0_3 := m_ hr0_3
 have HC0_3 := m_ hc0_3
 clear hr0_3 hc0_3
 have HR0_4 := m_ hr0_4
 have HC0_4 := m_ hc0_4
 clear hr0_4 hc0_4
 have HR0_5 := m_ hr0_5
 have HC0_5 := m_ hc0_5
 clear hr0_5 hc0_5
 have HB := m_ (Below.refl w.heap.size w)
 have H : (if 0 ≤ a1 then (if a1 < (l0_3.length : Int) then (if a1 < (l0_4.length : Int) then (some (wrap64 ((rd l0_3 a1) * (rd l0_4 a1)))) else (none)) else (none)) else (none)) = some r := h
 clear h
 by_cases c3 : 0 ≤ a1
 ·rw [if_pos c3] at H
  have c3b0 := decide_eq_true c3
  clear c3
  by_cases c4 : a1 < (l0_3.length : Int)
  ·rw [if_pos c4] at H
   have c4b0 := decide_eq_true c4
   clear c4
   by_cases c5 : a1 < (l0_4.length : Int)
   ·rw [if_pos c5] at H
    have c5b0 := decide_eq_true c5
    clear c5
    obtain rfl := Option.some.inj H
    go_enter Try.func52, Try.ntmps52
    go_wp2_with (first | ((with_reducible refine gate_dst (N := 2) rfl ?_); refine bxx0 2 41 #[.int .i64 a0_0, .int .i64 a0_1, .int .i64 a0_2, .slice A0_3 l0_3.length c0_3, .slice A0_4 l0_4.length c0_4, .slice A0_5 l0_5.length c0_5] (be0x0 HB.out) (below_size (be0x0 HB.out)) ?_; clear HB; intro gb210 w6 BK210 HB GE210 hb hg; clear hb hg; obtain ⟨hcz7_0, hcz7_1, hcz7_2, hcz7_3, hcz7_4, hcz7_5, hfz7_0, hfz7_1, hfz7_2, hfz7_3, hfz7_4, hfz7_5⟩ := cf6x0 BK210.out; obtain ⟨ad211, rfl, hx211_0, p211, q211⟩ := abx0 HB.out HR0_3.out a1; obtain ⟨ad212, rfl, hx212_0, p212, q212⟩ := abx0 HB.out HR0_4.out a1))
    repeat (go_quiet (first | ((with_reducible refine gate_dst (N := 2) rfl ?_); refine bxx0 2 41 #[.int .i64 a0_0, .int .i64 a0_1, .int .i64 a0_2, .slice A0_3 l0_3.length c0_3, .slice A0_4 l0_4.length c0_4, .slice A0_5 l0_5.length c0_5] (be0x0 HB.out) (below_size (be0x0 HB.out)) ?_; clear HB; intro gb210 w6 BK210 HB GE210 hb hg; clear hb hg; obtain ⟨hcz7_0, hcz7_1, hcz7_2, hcz7_3, hcz7_4, hcz7_5, hfz7_0, hfz7_1, hfz7_2, hfz7_3, hfz7_4, hfz7_5⟩ := cf6x0 BK210.out; obtain ⟨ad211, rfl, hx211_0, p211, q211⟩ := abx0 HB.out HR0_3.out a1; obtain ⟨ad212, rfl, hx212_0, p212, q212⟩ := abx0 HB.out HR0_4.out a1)); try go_wp2_with (first | ((with_reducible refine gate_dst (N := 2) rfl ?_); refine bxx0 2 41 #[.int .i64 a0_0, .int .i64 a0_1, .int .i64 a0_2, .slice A0_3 l0_3.length c0_3, .slice A0_4 l0_4.length c0_4, .slice A0_5 l0_5.length c0_5] (be0x0 HB.out) (below_size (be0x0 HB.out)) ?_; clear HB; intro gb210 w6 BK210 HB GE210 hb hg; clear hb hg; obtain ⟨hcz7_0, hcz7_1, hcz7_2, hcz7_3, hcz7_4, hcz7_5, hfz7_0, hfz7_1, hfz7_2, hfz7_3, hfz7_4, hfz7_5⟩ := cf6x0 BK210.out; obtain ⟨ad211, rfl, hx211_0, p211, q211⟩ := abx0 HB.out HR0_3.out a1; obtain ⟨ad212, rfl, hx212_0, p212, q212⟩ := abx0 HB.out HR0_4.out a1)))
    go_ret
    exact ⟨by first | rfl | (simp [errW_none, errW_some] <;> rfl) | (simp [*, errW_none, errW_some] <;> rfl), be1x0 HB.out GE210.out⟩
   ·rw [if_neg c5] at H
    exact absurd H (by simp)
  ·rw [if_neg c4] at H
   exact absurd H (by simp)
 ·rw [if_neg c3] at H
  exact absurd H (by simp)

end Go.Proofs.Ytloddihakhgcdaa.PFnExactDestinationSums
