/- This text is this session's own, not the print's: programs (wip/squeeze.py and others) made it out of what print.sh, or wip/ownprint.py, had written (BYTES set higher), its facts said by short words. -/
import Derived.Test.YtloddihakhgcdaaPFnExactDestinationSumsx0
import Derived.Test.YtloddihakhgcdaaPFnExactDestinationSumsx11
import Derived.Test.YtloddihakhgcdaaPFnExactDestinationSumsx12
import Derived.Test.YtloddihakhgcdaaPFnExactDestinationSumswx0
namespace Go.Proofs.Ytloddihakhgcdaa.PFnExactDestinationSums
open Go.RowKit Go.Proofs.YtloddihakhgcdaaW.PrintWords Go.Proofs.YtloddihakhgcdaaW.PrintLast Go.Proofs.YtloddihakhgcdaaW.PrintMore
attribute [local go_sem] max2_int min2_int max_two min_two max_three min_three max_four min_four   -- for this text's walks alone
set_option linter.unusedVariables false
set_option linter.unusedSimpArgs false

/-! ### impl_isFeasible: function 42 -/
mutual
def impl_isFeasible.l0 : Nat → Int → Int → List (List Int) → List Int → List Int → Int → Int → Int → Int → Int → Int → List Int → Option (Bool)
 | 0, _, _, _, _, _, _, _, _, _, _, _, _ => none
 | k + 1, x10, x11, x351000, x351001, x351002, x351003, x351004, x351005, x351006, x351007, x352000, x352001 => if x11 < x10 then ((impl_keepsOrder.f k x351000 x351001 x351002 x351003 x351004 x351005 x351006 x351007 x352000 x352001 x11).bind fun t352 => (if t352 = true then (impl_isFeasible.l0 k x10 (wrap64 (x11 + 1)) x351000 x351001 x351002 x351003 x351004 x351005 x351006 x351007 x352000 x352001) else (some false))) else ((impl_tonnesIn.f k x351000 x351001 x351002 x351003 x351004 x351005 x351006 x351007 x352000 x352001).bind fun t353 => (impl_isFeasible.l1 k t353 (t353.length : Int) 0 x351000 x351001 x351002 x351003 x351004 x351005 x351006 x351007))
def impl_isFeasible.l1 : Nat → List (List Int) → Int → Int → List (List Int) → List Int → List Int → Int → Int → Int → Int → Int → Option (Bool)
 | 0, _, _, _, _, _, _, _, _, _, _, _ => none
 | k + 1, x22, x23, x24, x351000, x351001, x351002, x351003, x351004, x351005, x351006, x351007 => if x24 < x23 then (if 0 ≤ x24 then (if x24 < (x22.length : Int) then (if 0 < ((rd_L1 x22 x24).length : Int) then (if (rd (rd_L1 x22 x24) 0) > x351003 then (some false) else (if 1 < ((rd_L1 x22 x24).length : Int) then (if (rd (rd_L1 x22 x24) 1) > x351004 then (some false) else (impl_isFeasible.l1 k x22 x23 (wrap64 (x24 + 1)) x351000 x351001 x351002 x351003 x351004 x351005 x351006 x351007)) else (none))) else (none)) else (none)) else (none)) else (some true)
end
def impl_isFeasible.f (k : Nat) (l0_0 : List (List Int)) (l0_1 : List Int) (l0_2 : List Int) (a0_3 : Int) (a0_4 : Int) (a0_5 : Int) (a0_6 : Int) (a0_7 : Int) (a1_0 : Int) (l1_1 : List Int) : Option (Bool) := impl_isFeasible.l0 k (l1_1.length : Int) 0 l0_0 l0_1 l0_2 a0_3 a0_4 a0_5 a0_6 a0_7 a1_0 l1_1
theorem impl_isFeasible.mono_l : ∀ k, (∀ y0 y1 y2 y3 y4 y5 y6 y7 y8 y9 y10 y11, LeO (impl_isFeasible.l0 k y0 y1 y2 y3 y4 y5 y6 y7 y8 y9 y10 y11) (impl_isFeasible.l0 (k + 1) y0 y1 y2 y3 y4 y5 y6 y7 y8 y9 y10 y11)) ∧ (∀ y0 y1 y2 y3 y4 y5 y6 y7 y8 y9 y10, LeO (impl_isFeasible.l1 k y0 y1 y2 y3 y4 y5 y6 y7 y8 y9 y10) (impl_isFeasible.l1 (k + 1) y0 y1 y2 y3 y4 y5 y6 y7 y8 y9 y10))
 | 0 => ⟨fun _ _ _ _ _ _ _ _ _ _ _ _ r h => by simp [impl_isFeasible.l0] at h, fun _ _ _ _ _ _ _ _ _ _ _ r h => by simp [impl_isFeasible.l1] at h⟩
 | k + 1 => by
  obtain ⟨ih0, ih1⟩ := impl_isFeasible.mono_l k
  refine ⟨?_, ?_⟩
  ·intro y0 y1 y2 y3 y4 y5 y6 y7 y8 y9 y10 y11
   unfold impl_isFeasible.l0
   repeat' first
   | (with_reducible exact ih0 _ _ _ _ _ _ _ _ _ _ _ _)
   | (with_reducible exact ih1 _ _ _ _ _ _ _ _ _ _ _)
   | (with_reducible exact impl_keepsOrder.mono _ _ _ _ _ _ _ _ _ _ _ _)
   | (with_reducible exact impl_tonnesIn.mono _ _ _ _ _ _ _ _ _ _ _)
   | (with_reducible exact LeO.refl _)
   | (with_reducible exact LeO.none _)
   | (with_reducible refine LeO.ite ?_ ?_)
   | (with_reducible refine LeO.bind ?_ (fun _ => ?_))
   | exact ih0 _ _ _ _ _ _ _ _ _ _ _ _
   | exact ih1 _ _ _ _ _ _ _ _ _ _ _
   | exact impl_keepsOrder.mono _ _ _ _ _ _ _ _ _ _ _ _
   | exact impl_tonnesIn.mono _ _ _ _ _ _ _ _ _ _ _
   | exact LeO.none _
   | refine LeO.ite ?_ ?_
   | refine LeO.bind ?_ (fun _ => ?_)
  ·intro y0 y1 y2 y3 y4 y5 y6 y7 y8 y9 y10
   unfold impl_isFeasible.l1
   repeat' first
   | (with_reducible exact ih0 _ _ _ _ _ _ _ _ _ _ _ _)
   | (with_reducible exact ih1 _ _ _ _ _ _ _ _ _ _ _)
   | (with_reducible exact impl_keepsOrder.mono _ _ _ _ _ _ _ _ _ _ _ _)
   | (with_reducible exact impl_tonnesIn.mono _ _ _ _ _ _ _ _ _ _ _)
   | (with_reducible exact LeO.refl _)
   | (with_reducible exact LeO.none _)
   | (with_reducible refine LeO.ite ?_ ?_)
   | (with_reducible refine LeO.bind ?_ (fun _ => ?_))
   | exact ih0 _ _ _ _ _ _ _ _ _ _ _ _
   | exact ih1 _ _ _ _ _ _ _ _ _ _ _
   | exact impl_keepsOrder.mono _ _ _ _ _ _ _ _ _ _ _ _
   | exact impl_tonnesIn.mono _ _ _ _ _ _ _ _ _ _ _
   | exact LeO.none _
   | refine LeO.ite ?_ ?_
   | refine LeO.bind ?_ (fun _ => ?_)
theorem impl_isFeasible.mono : ∀ a0 a1 a2 a3 a4 a5 a6 a7 a8 a9 k, LeO (impl_isFeasible.f k a0 a1 a2 a3 a4 a5 a6 a7 a8 a9) (impl_isFeasible.f (k + 1) a0 a1 a2 a3 a4 a5 a6 a7 a8 a9) := by
 intro a0 a1 a2 a3 a4 a5 a6 a7 a8 a9 k
 obtain ⟨ih0, ih1⟩ := impl_isFeasible.mono_l k
 unfold impl_isFeasible.f
 repeat' first
   | (with_reducible exact ih0 _ _ _ _ _ _ _ _ _ _ _ _)
   | (with_reducible exact ih1 _ _ _ _ _ _ _ _ _ _ _)
   | (with_reducible exact impl_keepsOrder.mono _ _ _ _ _ _ _ _ _ _ _ _)
   | (with_reducible exact impl_tonnesIn.mono _ _ _ _ _ _ _ _ _ _ _)
   | (with_reducible exact LeO.refl _)
   | (with_reducible exact LeO.none _)
   | (with_reducible refine LeO.ite ?_ ?_)
   | (with_reducible refine LeO.bind ?_ (fun _ => ?_))
   | exact ih0 _ _ _ _ _ _ _ _ _ _ _ _
   | exact ih1 _ _ _ _ _ _ _ _ _ _ _
   | exact impl_keepsOrder.mono _ _ _ _ _ _ _ _ _ _ _ _
   | exact impl_tonnesIn.mono _ _ _ _ _ _ _ _ _ _ _
   | exact LeO.none _
   | refine LeO.ite ?_ ?_
   | refine LeO.bind ?_ (fun _ => ?_)
set_option maxHeartbeats 8000000 in
set_option maxRecDepth 100000 in
theorem impl_isFeasible.calls (k : Nat) (A0_0 : Option Addr) (c0_0 : Nat) (l0_0 : List (List Int)) (A0_1 : Option Addr) (c0_1 : Nat) (l0_1 : List Int) (A0_2 : Option Addr) (c0_2 : Nat) (l0_2 : List Int) (a0_3 : Int) (a0_4 : Int) (a0_5 : Int) (a0_6 : Int) (a0_7 : Int) (a1_0 : Int) (A1_1 : Option Addr) (c1_1 : Nat) (l1_1 : List Int) (r : Bool) (w : World) (hr0_0 : Kd.C (Kd.slice 3 (Kd.int .i64)) w A0_0 l0_0.length l0_0) (hc0_0 : l0_0.length ≤ c0_0) (hr0_1 : Kd.C (Kd.int .i64) w A0_1 l0_1.length l0_1) (hc0_1 : l0_1.length ≤ c0_1) (hr0_2 : Kd.C (Kd.int .i64) w A0_2 l0_2.length l0_2) (hc0_2 : l0_2.length ≤ c0_2) (hr1_1 : Kd.C (Kd.int .i64) w A1_1 l1_1.length l1_1) (hc1_1 : l1_1.length ≤ c1_1) (h : impl_isFeasible.f k l0_0 l0_1 l0_2 a0_3 a0_4 a0_5 a0_6 a0_7 a1_0 l1_1 = some r) :
  Calls Try.prog 42 #[.agg #[.slice A0_0 l0_0.length c0_0, .slice A0_1 l0_1.length c0_1, .slice A0_2 l0_2.length c0_2, .int .i64 a0_3, .int .i64 a0_4, .int .i64 a0_5, .int .i64 a0_6, .int .i64 a0_7], .agg #[.int .i64 a1_0, .slice A1_1 l1_1.length c1_1]] w fun e w' => e = .returned (.bool r) ∧ Below w.heap.size w w' := by
 have hu45 := Try.underlying45
 have hu47 := Try.underlying47
 have HR0_0 := m_ hr0_0
 have HC0_0 := m_ hc0_0
 clear hr0_0 hc0_0
 have HR0_1 := m_ hr0_1
 have HC0_1 := m_ hc0_1
 clear hr0_1 hc0_1
 have HR0_2 := m_ hr0_2
 have HC0_2 := m_ hc0_2
 clear hr0_2 hc0_2
 have HR1_1 := m_ hr1_1
 have HC1_1 := m_ hc1_1
 clear hr1_1 hc1_1
 have HB := m_ (Below.refl w.heap.size w)
 have H : (impl_isFeasible.l0 k (l1_1.length : Int) 0 l0_0 l0_1 l0_2 a0_3 a0_4 a0_5 a0_6 a0_7 a1_0 l1_1) = some r := h
 clear h
 have H' := m_ H
 clear H
 go_enter Try.func42, Try.ntmps42
 go_wp2_with (first | ((with_reducible refine gate_dst (N := 2) rfl ?_); refine bxx0 2 45 #[.slice A0_0 l0_0.length c0_0, .slice A0_1 l0_1.length c0_1, .slice A0_2 l0_2.length c0_2, .int .i64 a0_3, .int .i64 a0_4, .int .i64 a0_5, .int .i64 a0_6, .int .i64 a0_7] (be0x0 HB.out) (below_size (be0x0 HB.out)) ?_; clear HB; intro gb350 w3 BK350 HB GE350 hb hg; clear hb hg) | ((with_reducible refine gate_dst (N := 3) rfl ?_); refine bxx0 3 47 #[.int .i64 a1_0, .slice A1_1 l1_1.length c1_1] (be1x0 HB.out GE350.out) (below_size (be1x0 HB.out GE350.out)) ?_; clear HB; intro gb351 w4 BK351 HB GE351 hb hg; have NB350_351 := nbx0 BK350 hg; have NB351_350 := ncx0 BK350 hg; replace BK350 := kbx0 BK350 hb; clear hb hg; have hnb5 := NB351_350.out; have hnc5 := NB350_351.out; obtain ⟨hcz6_0, hcz6_1, hfz6_0, hfz6_1⟩ := cf2x0 BK351.out))
 repeat (go_quiet (first | ((with_reducible refine gate_dst (N := 2) rfl ?_); refine bxx0 2 45 #[.slice A0_0 l0_0.length c0_0, .slice A0_1 l0_1.length c0_1, .slice A0_2 l0_2.length c0_2, .int .i64 a0_3, .int .i64 a0_4, .int .i64 a0_5, .int .i64 a0_6, .int .i64 a0_7] (be0x0 HB.out) (below_size (be0x0 HB.out)) ?_; clear HB; intro gb350 w3 BK350 HB GE350 hb hg; clear hb hg) | ((with_reducible refine gate_dst (N := 3) rfl ?_); refine bxx0 3 47 #[.int .i64 a1_0, .slice A1_1 l1_1.length c1_1] (be1x0 HB.out GE350.out) (below_size (be1x0 HB.out GE350.out)) ?_; clear HB; intro gb351 w4 BK351 HB GE351 hb hg; have NB350_351 := nbx0 BK350 hg; have NB351_350 := ncx0 BK350 hg; replace BK350 := kbx0 BK350 hb; clear hb hg; have hnb5 := NB351_350.out; have hnc5 := NB350_351.out; obtain ⟨hcz6_0, hcz6_1, hfz6_0, hfz6_1⟩ := cf2x0 BK351.out)); try go_wp2_with (first | ((with_reducible refine gate_dst (N := 2) rfl ?_); refine bxx0 2 45 #[.slice A0_0 l0_0.length c0_0, .slice A0_1 l0_1.length c0_1, .slice A0_2 l0_2.length c0_2, .int .i64 a0_3, .int .i64 a0_4, .int .i64 a0_5, .int .i64 a0_6, .int .i64 a0_7] (be0x0 HB.out) (below_size (be0x0 HB.out)) ?_; clear HB; intro gb350 w3 BK350 HB GE350 hb hg; clear hb hg) | ((with_reducible refine gate_dst (N := 3) rfl ?_); refine bxx0 3 47 #[.int .i64 a1_0, .slice A1_1 l1_1.length c1_1] (be1x0 HB.out GE350.out) (below_size (be1x0 HB.out GE350.out)) ?_; clear HB; intro gb351 w4 BK351 HB GE351 hb hg; have NB350_351 := nbx0 BK350 hg; have NB351_350 := ncx0 BK350 hg; replace BK350 := kbx0 BK350 hb; clear hb hg; have hnb5 := NB351_350.out; have hnc5 := NB350_351.out; obtain ⟨hcz6_0, hcz6_1, hfz6_0, hfz6_1⟩ := cf2x0 BK351.out)))
 go_loopg [11] k (fun kq v11 w' => ∃ (x11_1 : Int), v11 = .int .i64 x11_1 ∧ Aside0 (impl_isFeasible.l0 kq (l1_1.length : Int) x11_1 l0_0 l0_1 l0_2 a0_3 a0_4 a0_5 a0_6 a0_7 a1_0 l1_1 = some r) ∧ Aside0 (kq ≤ k) ∧ Aside0 (w'.heap[gb350]? = some (.cells #[(.slice A0_0 l0_0.length c0_0), (.slice A0_1 l0_1.length c0_1), (.slice A0_2 l0_2.length c0_2), .int .i64 a0_3, .int .i64 a0_4, .int .i64 a0_5, .int .i64 a0_6, .int .i64 a0_7] 45 (0, 0))) ∧ Aside0 (w'.heap[gb351]? = some (.cells #[.int .i64 a1_0, (.slice A1_1 l1_1.length c1_1)] 47 (0, 0))) ∧ Aside0 (Below w.heap.size w w'))
 case atStart => exact ⟨(0), frx0, H', ⟨Nat.le_refl _⟩, ⟨rBx0 BK350.out⟩, ⟨rBx0 BK351.out⟩, ⟨be2x0 HB.out GE350.out GE351.out⟩⟩
 case round =>
  clear H'
  try clear hcz6_0 hcz6_1 hfz6_0 hfz6_1
  obtain ⟨x11_1, rfl, HA, HK1, BK350, BK351, HB⟩ := hrel
  cases gk with
  | zero => exact absurd HA.out (by simp [impl_isFeasible.l0])
  | succ k1 =>
   have H := HA.out
   clear HA
   simp only [impl_isFeasible.l0] at H
   by_cases c7 : x11_1 < (l1_1.length : Int)
   ·rw [if_pos c7] at H
    have c7b0 := decide_eq_true c7
    clear c7
    replace H := Option.bind_eq_some_iff.mp H
    obtain ⟨t352, A80, H⟩ := H
    have A8 := m_ A80
    clear A80
    by_cases c9 : t352 = true
    ·subst c9
     have H1 : (impl_isFeasible.l0 k1 (l1_1.length : Int) (wrap64 (x11_1 + 1)) l0_0 l0_1 l0_2 a0_3 a0_4 a0_5 a0_6 a0_7 a1_0 l1_1) = some r := by rw [if_pos rfl] at H; exact H
     clear H
     have H := H1
     clear H1
     have H' := m_ H
     clear H
     have hnb10 := NB350_351.out
     have hnc10 := NB351_350.out
     obtain ⟨hcz11_0, hcz11_1, hcz11_2, hcz11_3, hcz11_4, hcz11_5, hcz11_6, hcz11_7, hfz11_0, hfz11_1, hfz11_2, hfz11_3, hfz11_4, hfz11_5, hfz11_6, hfz11_7⟩ := cf8x0 BK350.out
     obtain ⟨hcz12_0, hcz12_1, hfz12_0, hfz12_1⟩ := cf2x0 BK351.out
     go_wp2_with (first | (go_at_call 70; (with_reducible refine (impl_keepsOrder.calls k1 _ _ l0_0 _ _ l0_1 _ _ l0_2 a0_3 a0_4 a0_5 a0_6 a0_7 a1_0 _ _ l1_1 x11_1 true _ ?side1 ?side2 ?side3 ?side4 ?side5 ?side6 ?side7 ?side8 A8.out).mono ?_); (case side1 => exact rCx0 (Kd.C_below HR0_0.out HB.out)); (case side2 => exact HC0_0.out); (case side3 => exact rCx0 (Kd.C_below HR0_1.out HB.out)); (case side4 => exact HC0_1.out); (case side5 => exact rCx0 (Kd.C_below HR0_2.out HB.out)); (case side6 => exact HC0_2.out); (case side7 => exact rCx0 (Kd.C_below HR1_1.out HB.out)); (case side8 => exact HC1_1.out); rintro e w13 ⟨rfl, hb⟩; replace BK350 := kbx0 BK350 hb; replace BK351 := kbx0 BK351 hb; replace HB := m_ (below_step (be2x0 HB.out GE350.out GE351.out) hb); (try clear hb); (try clear hb2); (try clear hk); (try clear hi)))
     repeat (go_quiet (first | (go_at_call 70; (with_reducible refine (impl_keepsOrder.calls k1 _ _ l0_0 _ _ l0_1 _ _ l0_2 a0_3 a0_4 a0_5 a0_6 a0_7 a1_0 _ _ l1_1 x11_1 true _ ?side1 ?side2 ?side3 ?side4 ?side5 ?side6 ?side7 ?side8 A8.out).mono ?_); (case side1 => exact rCx0 (Kd.C_below HR0_0.out HB.out)); (case side2 => exact HC0_0.out); (case side3 => exact rCx0 (Kd.C_below HR0_1.out HB.out)); (case side4 => exact HC0_1.out); (case side5 => exact rCx0 (Kd.C_below HR0_2.out HB.out)); (case side6 => exact HC0_2.out); (case side7 => exact rCx0 (Kd.C_below HR1_1.out HB.out)); (case side8 => exact HC1_1.out); rintro e w13 ⟨rfl, hb⟩; replace BK350 := kbx0 BK350 hb; replace BK351 := kbx0 BK351 hb; replace HB := m_ (below_step (be2x0 HB.out GE350.out GE351.out) hb); (try clear hb); (try clear hb2); (try clear hk); (try clear hi))); try go_wp2_with (first | (go_at_call 70; (with_reducible refine (impl_keepsOrder.calls k1 _ _ l0_0 _ _ l0_1 _ _ l0_2 a0_3 a0_4 a0_5 a0_6 a0_7 a1_0 _ _ l1_1 x11_1 true _ ?side1 ?side2 ?side3 ?side4 ?side5 ?side6 ?side7 ?side8 A8.out).mono ?_); (case side1 => exact rCx0 (Kd.C_below HR0_0.out HB.out)); (case side2 => exact HC0_0.out); (case side3 => exact rCx0 (Kd.C_below HR0_1.out HB.out)); (case side4 => exact HC0_1.out); (case side5 => exact rCx0 (Kd.C_below HR0_2.out HB.out)); (case side6 => exact HC0_2.out); (case side7 => exact rCx0 (Kd.C_below HR1_1.out HB.out)); (case side8 => exact HC1_1.out); rintro e w13 ⟨rfl, hb⟩; replace BK350 := kbx0 BK350 hb; replace BK351 := kbx0 BK351 hb; replace HB := m_ (below_step (be2x0 HB.out GE350.out GE351.out) hb); (try clear hb); (try clear hb2); (try clear hk); (try clear hi))))
     go_roundg k1
     case measure => have := HK1.out; omega
     case rel => exact ⟨(wrap64 (x11_1 + 1)), frx0, H', ⟨by have := HK1.out; omega⟩, ⟨rBx0 BK350.out⟩, ⟨rBx0 BK351.out⟩, ⟨be2x0 HB.out GE350.out GE351.out⟩⟩
    ·replace c9 := Bool.eq_false_iff.mpr c9
     subst c9
     have H1 : (some false) = some r := by rw [if_neg (show ¬ (false = true) by decide)] at H; exact H
     clear H
     have H := H1
     clear H1
     obtain rfl := Option.some.inj H
     have hnb14 := NB350_351.out
     have hnc14 := NB351_350.out
     obtain ⟨hcz15_0, hcz15_1, hcz15_2, hcz15_3, hcz15_4, hcz15_5, hcz15_6, hcz15_7, hfz15_0, hfz15_1, hfz15_2, hfz15_3, hfz15_4, hfz15_5, hfz15_6, hfz15_7⟩ := cf8x0 BK350.out
     obtain ⟨hcz16_0, hcz16_1, hfz16_0, hfz16_1⟩ := cf2x0 BK351.out
     go_wp2_with (first | (go_at_call 70; (with_reducible refine (impl_keepsOrder.calls k1 _ _ l0_0 _ _ l0_1 _ _ l0_2 a0_3 a0_4 a0_5 a0_6 a0_7 a1_0 _ _ l1_1 x11_1 false _ ?side1 ?side2 ?side3 ?side4 ?side5 ?side6 ?side7 ?side8 A8.out).mono ?_); (case side1 => exact rCx0 (Kd.C_below HR0_0.out HB.out)); (case side2 => exact HC0_0.out); (case side3 => exact rCx0 (Kd.C_below HR0_1.out HB.out)); (case side4 => exact HC0_1.out); (case side5 => exact rCx0 (Kd.C_below HR0_2.out HB.out)); (case side6 => exact HC0_2.out); (case side7 => exact rCx0 (Kd.C_below HR1_1.out HB.out)); (case side8 => exact HC1_1.out); rintro e w17 ⟨rfl, hb⟩; replace BK350 := kbx0 BK350 hb; replace BK351 := kbx0 BK351 hb; replace HB := m_ (below_step (be2x0 HB.out GE350.out GE351.out) hb); (try clear hb); (try clear hb2); (try clear hk); (try clear hi)))
     repeat (go_quiet (first | (go_at_call 70; (with_reducible refine (impl_keepsOrder.calls k1 _ _ l0_0 _ _ l0_1 _ _ l0_2 a0_3 a0_4 a0_5 a0_6 a0_7 a1_0 _ _ l1_1 x11_1 false _ ?side1 ?side2 ?side3 ?side4 ?side5 ?side6 ?side7 ?side8 A8.out).mono ?_); (case side1 => exact rCx0 (Kd.C_below HR0_0.out HB.out)); (case side2 => exact HC0_0.out); (case side3 => exact rCx0 (Kd.C_below HR0_1.out HB.out)); (case side4 => exact HC0_1.out); (case side5 => exact rCx0 (Kd.C_below HR0_2.out HB.out)); (case side6 => exact HC0_2.out); (case side7 => exact rCx0 (Kd.C_below HR1_1.out HB.out)); (case side8 => exact HC1_1.out); rintro e w17 ⟨rfl, hb⟩; replace BK350 := kbx0 BK350 hb; replace BK351 := kbx0 BK351 hb; replace HB := m_ (below_step (be2x0 HB.out GE350.out GE351.out) hb); (try clear hb); (try clear hb2); (try clear hk); (try clear hi))); try go_wp2_with (first | (go_at_call 70; (with_reducible refine (impl_keepsOrder.calls k1 _ _ l0_0 _ _ l0_1 _ _ l0_2 a0_3 a0_4 a0_5 a0_6 a0_7 a1_0 _ _ l1_1 x11_1 false _ ?side1 ?side2 ?side3 ?side4 ?side5 ?side6 ?side7 ?side8 A8.out).mono ?_); (case side1 => exact rCx0 (Kd.C_below HR0_0.out HB.out)); (case side2 => exact HC0_0.out); (case side3 => exact rCx0 (Kd.C_below HR0_1.out HB.out)); (case side4 => exact HC0_1.out); (case side5 => exact rCx0 (Kd.C_below HR0_2.out HB.out)); (case side6 => exact HC0_2.out); (case side7 => exact rCx0 (Kd.C_below HR1_1.out HB.out)); (case side8 => exact HC1_1.out); rintro e w17 ⟨rfl, hb⟩; replace BK350 := kbx0 BK350 hb; replace BK351 := kbx0 BK351 hb; replace HB := m_ (below_step (be2x0 HB.out GE350.out GE351.out) hb); (try clear hb); (try clear hb2); (try clear hk); (try clear hi))))
     go_ret
     exact ⟨by first | rfl | (simp [errW_none, errW_some] <;> rfl) | (simp [*, errW_none, errW_some] <;> rfl), be2x0 HB.out GE350.out GE351.out⟩
   ·rw [if_neg c7] at H
    have c7b0 := decide_eq_false c7
    clear c7
    replace H := Option.bind_eq_some_iff.mp H
    obtain ⟨t353, A180, H⟩ := H
    have A18 := m_ A180
    clear A180
    have H' := m_ H
    clear H
    have hnb19 := NB350_351.out
    have hnc19 := NB351_350.out
    obtain ⟨hcz20_0, hcz20_1, hcz20_2, hcz20_3, hcz20_4, hcz20_5, hcz20_6, hcz20_7, hfz20_0, hfz20_1, hfz20_2, hfz20_3, hfz20_4, hfz20_5, hfz20_6, hfz20_7⟩ := cf8x0 BK350.out
    obtain ⟨hcz21_0, hcz21_1, hfz21_0, hfz21_1⟩ := cf2x0 BK351.out
    go_wp2_with (first | (go_at_call 71; (with_reducible refine (impl_tonnesIn.calls k1 _ _ l0_0 _ _ l0_1 _ _ l0_2 a0_3 a0_4 a0_5 a0_6 a0_7 a1_0 _ _ l1_1 t353 _ ?side1 ?side2 ?side3 ?side4 ?side5 ?side6 ?side7 ?side8 A18.out).mono ?_); (case side1 => exact rCx0 (Kd.C_below HR0_0.out HB.out)); (case side2 => exact HC0_0.out); (case side3 => exact rCx0 (Kd.C_below HR0_1.out HB.out)); (case side4 => exact HC0_1.out); (case side5 => exact rCx0 (Kd.C_below HR0_2.out HB.out)); (case side6 => exact HC0_2.out); (case side7 => exact rCx0 (Kd.C_below HR1_1.out HB.out)); (case side8 => exact HC1_1.out); rintro e w22 ⟨v354, rfl, ho0, hb⟩; have HO355 := m_ (Kd.S_lower ho0 (below_size (be2x0 HB.out GE350.out GE351.out))); replace BK350 := kbx0 BK350 hb; replace BK351 := kbx0 BK351 hb; replace HB := m_ (below_step (be2x0 HB.out GE350.out GE351.out) hb); (try clear hb); (try clear hb2); (try clear hk); (try clear hi); (try clear ho0); obtain ⟨Ao23, co23, eo23⟩ := Kd.S_slice HO355.out; subst eo23))
    repeat (go_quiet (first | (go_at_call 71; (with_reducible refine (impl_tonnesIn.calls k1 _ _ l0_0 _ _ l0_1 _ _ l0_2 a0_3 a0_4 a0_5 a0_6 a0_7 a1_0 _ _ l1_1 t353 _ ?side1 ?side2 ?side3 ?side4 ?side5 ?side6 ?side7 ?side8 A18.out).mono ?_); (case side1 => exact rCx0 (Kd.C_below HR0_0.out HB.out)); (case side2 => exact HC0_0.out); (case side3 => exact rCx0 (Kd.C_below HR0_1.out HB.out)); (case side4 => exact HC0_1.out); (case side5 => exact rCx0 (Kd.C_below HR0_2.out HB.out)); (case side6 => exact HC0_2.out); (case side7 => exact rCx0 (Kd.C_below HR1_1.out HB.out)); (case side8 => exact HC1_1.out); rintro e w22 ⟨v354, rfl, ho0, hb⟩; have HO355 := m_ (Kd.S_lower ho0 (below_size (be2x0 HB.out GE350.out GE351.out))); replace BK350 := kbx0 BK350 hb; replace BK351 := kbx0 BK351 hb; replace HB := m_ (below_step (be2x0 HB.out GE350.out GE351.out) hb); (try clear hb); (try clear hb2); (try clear hk); (try clear hi); (try clear ho0); obtain ⟨Ao23, co23, eo23⟩ := Kd.S_slice HO355.out; subst eo23)); try go_wp2_with (first | (go_at_call 71; (with_reducible refine (impl_tonnesIn.calls k1 _ _ l0_0 _ _ l0_1 _ _ l0_2 a0_3 a0_4 a0_5 a0_6 a0_7 a1_0 _ _ l1_1 t353 _ ?side1 ?side2 ?side3 ?side4 ?side5 ?side6 ?side7 ?side8 A18.out).mono ?_); (case side1 => exact rCx0 (Kd.C_below HR0_0.out HB.out)); (case side2 => exact HC0_0.out); (case side3 => exact rCx0 (Kd.C_below HR0_1.out HB.out)); (case side4 => exact HC0_1.out); (case side5 => exact rCx0 (Kd.C_below HR0_2.out HB.out)); (case side6 => exact HC0_2.out); (case side7 => exact rCx0 (Kd.C_below HR1_1.out HB.out)); (case side8 => exact HC1_1.out); rintro e w22 ⟨v354, rfl, ho0, hb⟩; have HO355 := m_ (Kd.S_lower ho0 (below_size (be2x0 HB.out GE350.out GE351.out))); replace BK350 := kbx0 BK350 hb; replace BK351 := kbx0 BK351 hb; replace HB := m_ (below_step (be2x0 HB.out GE350.out GE351.out) hb); (try clear hb); (try clear hb2); (try clear hk); (try clear hi); (try clear ho0); obtain ⟨Ao23, co23, eo23⟩ := Kd.S_slice HO355.out; subst eo23)))
    go_loopg [24] k1 (fun kq v24 w' => ∃ (x24_2 : Int), v24 = .int .i64 x24_2 ∧ Aside0 (impl_isFeasible.l1 kq t353 (t353.length : Int) x24_2 l0_0 l0_1 l0_2 a0_3 a0_4 a0_5 a0_6 a0_7 = some r) ∧ Aside0 (kq ≤ k1) ∧ Aside0 (Kd.S (Kd.slice 3 (Kd.int .i64)) 24 w' w.heap.size (fun _ => True) (.slice Ao23 t353.length co23) t353) ∧ Aside0 (w'.heap[gb350]? = some (.cells #[(.slice A0_0 l0_0.length c0_0), (.slice A0_1 l0_1.length c0_1), (.slice A0_2 l0_2.length c0_2), .int .i64 a0_3, .int .i64 a0_4, .int .i64 a0_5, .int .i64 a0_6, .int .i64 a0_7] 45 (0, 0))) ∧ Aside0 (w'.heap[gb351]? = some (.cells #[.int .i64 a1_0, (.slice A1_1 l1_1.length c1_1)] 47 (0, 0))) ∧ Aside0 (Below w.heap.size w w'))
    case atStart => exact ⟨(0), frx0, H', ⟨Nat.le_refl _⟩, ⟨rSx0 HO355.out⟩, ⟨rBx0 BK350.out⟩, ⟨rBx0 BK351.out⟩, ⟨be2x0 HB.out GE350.out GE351.out⟩⟩
    case round =>
     clear H'
     try clear c7; try clear c7b0; try clear c9; try clear hcz11_0 hcz11_1 hcz11_2 hcz11_3 hcz11_4 hcz11_5 hcz11_6 hcz11_7; try clear hcz12_0 hcz12_1; try clear hcz15_0 hcz15_1 hcz15_2 hcz15_3 hcz15_4 hcz15_5 hcz15_6 hcz15_7; try clear hcz16_0 hcz16_1; try clear hcz20_0 hcz20_1 hcz20_2 hcz20_3 hcz20_4 hcz20_5 hcz20_6 hcz20_7; try clear hcz21_0 hcz21_1; try clear hfz11_0 hfz11_1 hfz11_2 hfz11_3 hfz11_4 hfz11_5 hfz11_6 hfz11_7; try clear hfz12_0 hfz12_1; try clear hfz15_0 hfz15_1 hfz15_2 hfz15_3 hfz15_4 hfz15_5 hfz15_6 hfz15_7; try clear hfz16_0 hfz16_1; try clear hfz20_0 hfz20_1 hfz20_2 hfz20_3 hfz20_4 hfz20_5 hfz20_6 hfz20_7; try clear hfz21_0 hfz21_1
     obtain ⟨x24_2, rfl, HA, HK2, HO_22, BK350, BK351, HB⟩ := hrel
     cases gk with
     | zero => exact absurd HA.out (by simp [impl_isFeasible.l1])
     | succ k2 =>
      have H := HA.out
      clear HA
      simp only [impl_isFeasible.l1] at H
      by_cases c24 : x24_2 < (t353.length : Int)
      ·rw [if_pos c24] at H
       have c24b0 := decide_eq_true c24
       clear c24
       by_cases c25 : 0 ≤ x24_2
       ·rw [if_pos c25] at H
        have c25b0 := decide_eq_true c25
        clear c25
        by_cases c26 : x24_2 < (t353.length : Int)
        ·rw [if_pos c26] at H
         have c26b0 := decide_eq_true c26
         clear c26
         by_cases c27 : 0 < ((rd_L1 t353 x24_2).length : Int)
         ·rw [if_pos c27] at H
          have c27b0 := decide_eq_true c27
          have c27b1 : decide (0 < (rd_L1 t353 x24_2).length) = true := decide_eq_true (by omega)
          clear c27
          by_cases c28 : (rd (rd_L1 t353 x24_2) 0) > a0_3
          ·rw [if_pos c28] at H
           have c28b0 : decide (a0_3 < (rd (rd_L1 t353 x24_2) 0)) = true := decide_eq_true c28
           clear c28
           obtain rfl := Option.some.inj H
           have p356 : 0 ≤ (x24_2 : Int) := dax0
           have q356 : x24_2 < (t353.length : Int) := dax0
           obtain ⟨ad356, A356_0, c356_0, e356, hx356_0, hl356_0, hi356_0⟩ := at_L1 (Kd.S_reads' HO_22.out).2.2 x24_2 p356 q356
           cases e356
           obtain ⟨ce356, hce356, hMe356, hcc356⟩ := Kd.S_get HO_22.out [] x24_2 p356 (by first | exact q356 | exact dax0 | (have e_ := (Kd.S_reads' HO_22.out).1; omega))
           obtain ⟨ve356_0, rfl, ge356_0⟩ := hMe356
           have hv356_0 := hcc356 0 _ rfl
           rw [Nat.add_zero, show ((Kd.slice 3 (Kd.int .i64))).sz = 1 from rfl, Nat.mul_one] at hv356_0
           replace hv356_0 := Option.some.inj (hv356_0.symm.trans hx356_0)
           rw [hv356_0] at ge356_0
           have HL356_0 := m_ (show Kd.R (Kd.int .i64) 3 _ _ _ _ (rd_L1 t353 x24_2) from ge356_0)
           clear hv356_0 ge356_0 hcc356 hce356
           have HR356_0 := m_ hi356_0
           have HC356_0 := m_ hl356_0
           clear hi356_0 hl356_0
           replace p356 := eq_true p356
           replace q356 := eq_true q356
           have p357 : 0 ≤ (0 : Int) := (by omega)
           have q357 : 0 < ((rd_L1 t353 x24_2).length : Int) := dax0
           obtain ⟨ad357, e357, hx357_0⟩ := Kd.at_int (by repeat (first | (with_reducible exact HR356_0.out) | (with_reducible refine Kd.C_alloc ?_ _) | (with_reducible refine Kd.C_drewN ?_ _) | (with_reducible refine Kd.C_drew ?_) | exact HR356_0.out)) 0 p357 q357
           cases e357
           have qi357 : (0 < (rd_L1 t353 x24_2).length) = True := eq_true (by omega)
           (try rw [show ((0 : Int)).toNat = 0 from rfl] at hx357_0)
           (try rw [Addr.add_zero'] at hx357_0)
           replace p357 := eq_true p357
           replace q357 := eq_true q357
           have hnb29 := NB350_351.out
           have hnc29 := NB351_350.out
           obtain ⟨hcz30_0, hcz30_1, hcz30_2, hcz30_3, hcz30_4, hcz30_5, hcz30_6, hcz30_7, hfz30_0, hfz30_1, hfz30_2, hfz30_3, hfz30_4, hfz30_5, hfz30_6, hfz30_7⟩ := cf8x0 BK350.out
           go_wp2
           repeat (go_quiet (fail); try go_wp2)
           go_ret
           exact ⟨by first | rfl | (simp [errW_none, errW_some] <;> rfl) | (simp [*, errW_none, errW_some] <;> rfl), be2x0 HB.out GE350.out GE351.out⟩
          ·rw [if_neg c28] at H
           have c28b0 : decide (a0_3 < (rd (rd_L1 t353 x24_2) 0)) = false := decide_eq_false c28
           clear c28
           by_cases c31 : 1 < ((rd_L1 t353 x24_2).length : Int)
           ·rw [if_pos c31] at H
            have c31b0 := decide_eq_true c31
            have c31b1 : decide (1 < (rd_L1 t353 x24_2).length) = true := decide_eq_true (by omega)
            clear c31
            by_cases c32 : (rd (rd_L1 t353 x24_2) 1) > a0_4
            ·rw [if_pos c32] at H
             have c32b0 : decide (a0_4 < (rd (rd_L1 t353 x24_2) 1)) = true := decide_eq_true c32
             clear c32
             obtain rfl := Option.some.inj H
             have p356 : 0 ≤ (x24_2 : Int) := dax0
             have q356 : x24_2 < (t353.length : Int) := dax0
             obtain ⟨ad356, A356_0, c356_0, e356, hx356_0, hl356_0, hi356_0⟩ := at_L1 (Kd.S_reads' HO_22.out).2.2 x24_2 p356 q356
             cases e356
             obtain ⟨ce356, hce356, hMe356, hcc356⟩ := Kd.S_get HO_22.out [] x24_2 p356 (by first | exact q356 | exact dax0 | (have e_ := (Kd.S_reads' HO_22.out).1; omega))
             obtain ⟨ve356_0, rfl, ge356_0⟩ := hMe356
             have hv356_0 := hcc356 0 _ rfl
             rw [Nat.add_zero, show ((Kd.slice 3 (Kd.int .i64))).sz = 1 from rfl, Nat.mul_one] at hv356_0
             replace hv356_0 := Option.some.inj (hv356_0.symm.trans hx356_0)
             rw [hv356_0] at ge356_0
             have HL356_0 := m_ (show Kd.R (Kd.int .i64) 3 _ _ _ _ (rd_L1 t353 x24_2) from ge356_0)
             clear hv356_0 ge356_0 hcc356 hce356
             have HR356_0 := m_ hi356_0
             have HC356_0 := m_ hl356_0
             clear hi356_0 hl356_0
             replace p356 := eq_true p356
             replace q356 := eq_true q356
             have p357 : 0 ≤ (0 : Int) := (by omega)
             have q357 : 0 < ((rd_L1 t353 x24_2).length : Int) := dax0
             obtain ⟨ad357, e357, hx357_0⟩ := Kd.at_int (by repeat (first | (with_reducible exact HR356_0.out) | (with_reducible refine Kd.C_alloc ?_ _) | (with_reducible refine Kd.C_drewN ?_ _) | (with_reducible refine Kd.C_drew ?_) | exact HR356_0.out)) 0 p357 q357
             cases e357
             have qi357 : (0 < (rd_L1 t353 x24_2).length) = True := eq_true (by omega)
             (try rw [show ((0 : Int)).toNat = 0 from rfl] at hx357_0)
             (try rw [Addr.add_zero'] at hx357_0)
             replace p357 := eq_true p357
             replace q357 := eq_true q357
             have hnb33 := NB350_351.out
             have hnc33 := NB351_350.out
             obtain ⟨hcz34_0, hcz34_1, hcz34_2, hcz34_3, hcz34_4, hcz34_5, hcz34_6, hcz34_7, hfz34_0, hfz34_1, hfz34_2, hfz34_3, hfz34_4, hfz34_5, hfz34_6, hfz34_7⟩ := cf8x0 BK350.out
             have p358 : 0 ≤ (1 : Int) := (by omega)
             have q358 : 1 < ((rd_L1 t353 x24_2).length : Int) := dax0
             obtain ⟨ad358, e358, hx358_0⟩ := Kd.at_int (by repeat (first | (with_reducible exact HR356_0.out) | (with_reducible refine Kd.C_alloc ?_ _) | (with_reducible refine Kd.C_drewN ?_ _) | (with_reducible refine Kd.C_drew ?_) | exact HR356_0.out)) 1 p358 q358
             obtain rfl : ad357 = ad358 := (by injection e358)
             (try simp only [show (1 : Int).toNat = 1 from rfl, Nat.reduceMul, Nat.reduceEqDiff, Go.Addr.add, ↓reduceIte] at hx358_0)
             have qi358 : (1 < (rd_L1 t353 x24_2).length) = True := eq_true (by omega)
             (try rw [show ((1 : Int)).toNat = 1 from rfl] at hx358_0)
             replace p358 := eq_true p358
             replace q358 := eq_true q358
             go_wp2
             repeat (go_quiet (fail); try go_wp2)
             go_ret
             exact ⟨by first | rfl | (simp [errW_none, errW_some] <;> rfl) | (simp [*, errW_none, errW_some] <;> rfl), be2x0 HB.out GE350.out GE351.out⟩
            ·rw [if_neg c32] at H
             have c32b0 : decide (a0_4 < (rd (rd_L1 t353 x24_2) 1)) = false := decide_eq_false c32
             clear c32
             have H' := m_ H
             clear H
             have p356 : 0 ≤ (x24_2 : Int) := dax0
             have q356 : x24_2 < (t353.length : Int) := dax0
             obtain ⟨ad356, A356_0, c356_0, e356, hx356_0, hl356_0, hi356_0⟩ := at_L1 (Kd.S_reads' HO_22.out).2.2 x24_2 p356 q356
             cases e356
             obtain ⟨ce356, hce356, hMe356, hcc356⟩ := Kd.S_get HO_22.out [] x24_2 p356 (by first | exact q356 | exact dax0 | (have e_ := (Kd.S_reads' HO_22.out).1; omega))
             obtain ⟨ve356_0, rfl, ge356_0⟩ := hMe356
             have hv356_0 := hcc356 0 _ rfl
             rw [Nat.add_zero, show ((Kd.slice 3 (Kd.int .i64))).sz = 1 from rfl, Nat.mul_one] at hv356_0
             replace hv356_0 := Option.some.inj (hv356_0.symm.trans hx356_0)
             rw [hv356_0] at ge356_0
             have HL356_0 := m_ (show Kd.R (Kd.int .i64) 3 _ _ _ _ (rd_L1 t353 x24_2) from ge356_0)
             clear hv356_0 ge356_0 hcc356 hce356
             have HR356_0 := m_ hi356_0
             have HC356_0 := m_ hl356_0
             clear hi356_0 hl356_0
             replace p356 := eq_true p356
             replace q356 := eq_true q356
             have p357 : 0 ≤ (0 : Int) := (by omega)
             have q357 : 0 < ((rd_L1 t353 x24_2).length : Int) := dax0
             obtain ⟨ad357, e357, hx357_0⟩ := Kd.at_int (by repeat (first | (with_reducible exact HR356_0.out) | (with_reducible refine Kd.C_alloc ?_ _) | (with_reducible refine Kd.C_drewN ?_ _) | (with_reducible refine Kd.C_drew ?_) | exact HR356_0.out)) 0 p357 q357
             cases e357
             have qi357 : (0 < (rd_L1 t353 x24_2).length) = True := eq_true (by omega)
             (try rw [show ((0 : Int)).toNat = 0 from rfl] at hx357_0)
             (try rw [Addr.add_zero'] at hx357_0)
             replace p357 := eq_true p357
             replace q357 := eq_true q357
             have hnb35 := NB350_351.out
             have hnc35 := NB351_350.out
             obtain ⟨hcz36_0, hcz36_1, hcz36_2, hcz36_3, hcz36_4, hcz36_5, hcz36_6, hcz36_7, hfz36_0, hfz36_1, hfz36_2, hfz36_3, hfz36_4, hfz36_5, hfz36_6, hfz36_7⟩ := cf8x0 BK350.out
             have p358 : 0 ≤ (1 : Int) := (by omega)
             have q358 : 1 < ((rd_L1 t353 x24_2).length : Int) := dax0
             obtain ⟨ad358, e358, hx358_0⟩ := Kd.at_int (by repeat (first | (with_reducible exact HR356_0.out) | (with_reducible refine Kd.C_alloc ?_ _) | (with_reducible refine Kd.C_drewN ?_ _) | (with_reducible refine Kd.C_drew ?_) | exact HR356_0.out)) 1 p358 q358
             obtain rfl : ad357 = ad358 := (by injection e358)
             (try simp only [show (1 : Int).toNat = 1 from rfl, Nat.reduceMul, Nat.reduceEqDiff, Go.Addr.add, ↓reduceIte] at hx358_0)
             have qi358 : (1 < (rd_L1 t353 x24_2).length) = True := eq_true (by omega)
             (try rw [show ((1 : Int)).toNat = 1 from rfl] at hx358_0)
             replace p358 := eq_true p358
             replace q358 := eq_true q358
             go_wp2
             repeat (go_quiet (fail); try go_wp2)
             go_roundg k2
             case measure => have := HK1.out; have := HK2.out; omega
             case rel => exact ⟨(wrap64 (x24_2 + 1)), frx0, H', ⟨by have := HK1.out; have := HK2.out; omega⟩, ⟨rSx0 HO_22.out⟩, ⟨rBx0 BK350.out⟩, ⟨rBx0 BK351.out⟩, ⟨be2x0 HB.out GE350.out GE351.out⟩⟩
           ·rw [if_neg c31] at H
            exact absurd H (by simp)
         ·rw [if_neg c27] at H
          exact absurd H (by simp)
        ·rw [if_neg c26] at H
         exact absurd H (by simp)
       ·rw [if_neg c25] at H
        exact absurd H (by simp)
      ·rw [if_neg c24] at H
       have c24b0 := decide_eq_false c24
       clear c24
       obtain rfl := Option.some.inj H
       go_wp2
       repeat (go_quiet (fail); try go_wp2)
       go_ret
       exact ⟨by first | rfl | (simp [errW_none, errW_some] <;> rfl) | (simp [*, errW_none, errW_some] <;> rfl), be2x0 HB.out GE350.out GE351.out⟩

/-! ### impl_isCutoff: function 43 -/
def impl_isCutoff.f (a0 : Int) : Option (Bool) := if a0 ≥ 0 then (some (decide (a0 ≤ 1001))) else (some false)
set_option maxHeartbeats 8000000 in
set_option maxRecDepth 100000 in
theorem impl_isCutoff.calls (a0 : Int) (r : Bool) (w : World) (h : impl_isCutoff.f a0 = some r) :
  Calls Try.prog 43 #[.int .i64 a0] w fun e w' => e = .returned (.bool r) ∧ Drawn0 w w' := by
 have H : (if a0 ≥ 0 then (some (decide (a0 ≤ 1001))) else (some false)) = some r := h
 clear h
 by_cases c2 : a0 ≥ 0
 ·rw [if_pos c2] at H
  have c2b0 : decide (0 ≤ a0) = true := decide_eq_true c2
  clear c2
  obtain rfl := Option.some.inj H
  go_enter Try.func43, Try.ntmps43
  go_wp2
  go_ret
  exact ⟨frx0, drx0⟩
 ·rw [if_neg c2] at H
  have c2b0 : decide (0 ≤ a0) = false := decide_eq_false c2
  clear c2
  obtain rfl := Option.some.inj H
  go_enter Try.func43, Try.ntmps43
  go_wp2
  go_ret
  exact ⟨frx0, drx0⟩

/-! ### impl_destinationOf: function 44 -/
def impl_destinationOf.f (a0_0 : Int) (a0_1 : Int) (a0_2 : Int) (l0_3 : List Int) (l0_4 : List Int) (l0_5 : List Int) (l1_0 : List (List Int)) (l1_1 : List Int) (l1_2 : List Int) (a1_3 : Int) (a1_4 : Int) (a1_5 : Int) (a1_6 : Int) (a1_7 : Int) (a2 : Int) (a3 : Int) : Option (Int) := if 0 ≤ a2 then (if a2 < (l1_2.length : Int) then (if (rd l1_2 a2) > 0 then (some 0) else (if a2 < (l0_4.length : Int) then (if (rd l0_4 a2) ≥ a3 then (some 1) else (some 2)) else (none))) else (none)) else (none)
set_option maxHeartbeats 8000000 in
set_option maxRecDepth 100000 in
theorem impl_destinationOf.calls (a0_0 : Int) (a0_1 : Int) (a0_2 : Int) (A0_3 : Option Addr) (c0_3 : Nat) (l0_3 : List Int) (A0_4 : Option Addr) (c0_4 : Nat) (l0_4 : List Int) (A0_5 : Option Addr) (c0_5 : Nat) (l0_5 : List Int) (A1_0 : Option Addr) (c1_0 : Nat) (l1_0 : List (List Int)) (A1_1 : Option Addr) (c1_1 : Nat) (l1_1 : List Int) (A1_2 : Option Addr) (c1_2 : Nat) (l1_2 : List Int) (a1_3 : Int) (a1_4 : Int) (a1_5 : Int) (a1_6 : Int) (a1_7 : Int) (a2 : Int) (a3 : Int) (r : Int) (w : World) (hr0_3 : Kd.C (Kd.int .i64) w A0_3 l0_3.length l0_3) (hc0_3 : l0_3.length ≤ c0_3) (hr0_4 : Kd.C (Kd.int .i64) w A0_4 l0_4.length l0_4) (hc0_4 : l0_4.length ≤ c0_4) (hr0_5 : Kd.C (Kd.int .i64) w A0_5 l0_5.length l0_5) (hc0_5 : l0_5.length ≤ c0_5) (hr1_0 : Kd.C (Kd.slice 3 (Kd.int .i64)) w A1_0 l1_0.length l1_0) (hc1_0 : l1_0.length ≤ c1_0) (hr1_1 : Kd.C (Kd.int .i64) w A1_1 l1_1.length l1_1) (hc1_1 : l1_1.length ≤ c1_1) (hr1_2 : Kd.C (Kd.int .i64) w A1_2 l1_2.length l1_2) (hc1_2 : l1_2.length ≤ c1_2) (h : impl_destinationOf.f a0_0 a0_1 a0_2 l0_3 l0_4 l0_5 l1_0 l1_1 l1_2 a1_3 a1_4 a1_5 a1_6 a1_7 a2 a3 = some r) :
  Calls Try.prog 44 #[.agg #[.int .i64 a0_0, .int .i64 a0_1, .int .i64 a0_2, .slice A0_3 l0_3.length c0_3, .slice A0_4 l0_4.length c0_4, .slice A0_5 l0_5.length c0_5], .agg #[.slice A1_0 l1_0.length c1_0, .slice A1_1 l1_1.length c1_1, .slice A1_2 l1_2.length c1_2, .int .i64 a1_3, .int .i64 a1_4, .int .i64 a1_5, .int .i64 a1_6, .int .i64 a1_7], .int .i64 a2, .int .i64 a3] w fun e w' => e = .returned (.int .i64 r) ∧ Below w.heap.size w w' := by
 have hu41 := Try.underlying41
 have hu45 := Try.underlying45
 have HR0_3 := m_ hr0_3
 have HC0_3 := m_ hc0_3
 clear hr0_3 hc0_3
 have HR0_4 := m_ hr0_4
 have HC0_4 := m_ hc0_4
 clear hr0_4 hc0_4
 have HR0_5 := m_ hr0_5
 have HC0_5 := m_ hc0_5
 clear hr0_5 hc0_5
 have HR1_0 := m_ hr1_0
 have HC1_0 := m_ hc1_0
 clear hr1_0 hc1_0
 have HR1_1 := m_ hr1_1
 have HC1_1 := m_ hc1_1
 clear hr1_1 hc1_1
 have HR1_2 := m_ hr1_2
 have HC1_2 := m_ hc1_2
 clear hr1_2 hc1_2
 have HB := m_ (Below.refl w.heap.size w)
 have H : (if 0 ≤ a2 then (if a2 < (l1_2.length : Int) then (if (rd l1_2 a2) > 0 then (some 0) else (if a2 < (l0_4.length : Int) then (if (rd l0_4 a2) ≥ a3 then (some 1) else (some 2)) else (none))) else (none)) else (none)) = some r := h
 clear h
 by_cases c5 : 0 ≤ a2
 ·rw [if_pos c5] at H
  have c5b0 := decide_eq_true c5
  clear c5
  by_cases c6 : a2 < (l1_2.length : Int)
  ·rw [if_pos c6] at H
   have c6b0 := decide_eq_true c6
   clear c6
   by_cases c7 : (rd l1_2 a2) > 0
   ·rw [if_pos c7] at H
    have c7b0 : decide (0 < (rd l1_2 a2)) = true := decide_eq_true c7
    clear c7
    obtain rfl := Option.some.inj H
    go_enter Try.func44, Try.ntmps44
    go_wp2_with (first | ((with_reducible refine gate_dst (N := 4) rfl ?_); refine bxx0 4 41 #[.int .i64 a0_0, .int .i64 a0_1, .int .i64 a0_2, .slice A0_3 l0_3.length c0_3, .slice A0_4 l0_4.length c0_4, .slice A0_5 l0_5.length c0_5] (be0x0 HB.out) (below_size (be0x0 HB.out)) ?_; clear HB; intro gb359 w8 BK359 HB GE359 hb hg; clear hb hg) | ((with_reducible refine gate_dst (N := 5) rfl ?_); refine bxx0 5 45 #[.slice A1_0 l1_0.length c1_0, .slice A1_1 l1_1.length c1_1, .slice A1_2 l1_2.length c1_2, .int .i64 a1_3, .int .i64 a1_4, .int .i64 a1_5, .int .i64 a1_6, .int .i64 a1_7] (be1x0 HB.out GE359.out) (below_size (be1x0 HB.out GE359.out)) ?_; clear HB; intro gb360 w9 BK360 HB GE360 hb hg; have NB359_360 := nbx0 BK359 hg; have NB360_359 := ncx0 BK359 hg; replace BK359 := kbx0 BK359 hb; clear hb hg; have hnb10 := NB360_359.out; have hnc10 := NB359_360.out; obtain ⟨hcz11_0, hcz11_1, hcz11_2, hcz11_3, hcz11_4, hcz11_5, hcz11_6, hcz11_7, hfz11_0, hfz11_1, hfz11_2, hfz11_3, hfz11_4, hfz11_5, hfz11_6, hfz11_7⟩ := cf8x0 BK360.out; obtain ⟨ad361, rfl, hx361_0, p361, q361⟩ := abx0 HB.out HR1_2.out a2))
    go_ret
    exact ⟨by first | rfl | (simp [errW_none, errW_some] <;> rfl) | (simp [*, errW_none, errW_some] <;> rfl), be2x0 HB.out GE359.out GE360.out⟩
   ·rw [if_neg c7] at H
    have c7b0 : decide (0 < (rd l1_2 a2)) = false := decide_eq_false c7
    clear c7
    by_cases c12 : a2 < (l0_4.length : Int)
    ·rw [if_pos c12] at H
     have c12b0 := decide_eq_true c12
     clear c12
     by_cases c13 : (rd l0_4 a2) ≥ a3
     ·rw [if_pos c13] at H
      have c13b0 : decide (a3 ≤ (rd l0_4 a2)) = true := decide_eq_true c13
      clear c13
      obtain rfl := Option.some.inj H
      go_enter Try.func44, Try.ntmps44
      go_wp2_with (first | ((with_reducible refine gate_dst (N := 4) rfl ?_); refine bxx0 4 41 #[.int .i64 a0_0, .int .i64 a0_1, .int .i64 a0_2, .slice A0_3 l0_3.length c0_3, .slice A0_4 l0_4.length c0_4, .slice A0_5 l0_5.length c0_5] (be0x0 HB.out) (below_size (be0x0 HB.out)) ?_; clear HB; intro gb359 w14 BK359 HB GE359 hb hg; clear hb hg) | ((with_reducible refine gate_dst (N := 5) rfl ?_); refine bxx0 5 45 #[.slice A1_0 l1_0.length c1_0, .slice A1_1 l1_1.length c1_1, .slice A1_2 l1_2.length c1_2, .int .i64 a1_3, .int .i64 a1_4, .int .i64 a1_5, .int .i64 a1_6, .int .i64 a1_7] (be1x0 HB.out GE359.out) (below_size (be1x0 HB.out GE359.out)) ?_; clear HB; intro gb360 w15 BK360 HB GE360 hb hg; have NB359_360 := nbx0 BK359 hg; have NB360_359 := ncx0 BK359 hg; replace BK359 := kbx0 BK359 hb; clear hb hg; have hnb16 := NB360_359.out; have hnc16 := NB359_360.out; obtain ⟨hcz17_0, hcz17_1, hcz17_2, hcz17_3, hcz17_4, hcz17_5, hcz17_6, hcz17_7, hfz17_0, hfz17_1, hfz17_2, hfz17_3, hfz17_4, hfz17_5, hfz17_6, hfz17_7⟩ := cf8x0 BK360.out; obtain ⟨ad361, rfl, hx361_0, p361, q361⟩ := abx0 HB.out HR1_2.out a2; obtain ⟨hcz18_0, hcz18_1, hcz18_2, hcz18_3, hcz18_4, hcz18_5, hfz18_0, hfz18_1, hfz18_2, hfz18_3, hfz18_4, hfz18_5⟩ := cf6x0 BK359.out; obtain ⟨ad362, rfl, hx362_0, p362, q362⟩ := abx0 HB.out HR0_4.out a2))
      go_ret
      exact ⟨by first | rfl | (simp [errW_none, errW_some] <;> rfl) | (simp [*, errW_none, errW_some] <;> rfl), be2x0 HB.out GE359.out GE360.out⟩
     ·rw [if_neg c13] at H
      have c13b0 : decide (a3 ≤ (rd l0_4 a2)) = false := decide_eq_false c13
      clear c13
      obtain rfl := Option.some.inj H
      go_enter Try.func44, Try.ntmps44
      go_wp2_with (first | ((with_reducible refine gate_dst (N := 4) rfl ?_); refine bxx0 4 41 #[.int .i64 a0_0, .int .i64 a0_1, .int .i64 a0_2, .slice A0_3 l0_3.length c0_3, .slice A0_4 l0_4.length c0_4, .slice A0_5 l0_5.length c0_5] (be0x0 HB.out) (below_size (be0x0 HB.out)) ?_; clear HB; intro gb359 w19 BK359 HB GE359 hb hg; clear hb hg) | ((with_reducible refine gate_dst (N := 5) rfl ?_); refine bxx0 5 45 #[.slice A1_0 l1_0.length c1_0, .slice A1_1 l1_1.length c1_1, .slice A1_2 l1_2.length c1_2, .int .i64 a1_3, .int .i64 a1_4, .int .i64 a1_5, .int .i64 a1_6, .int .i64 a1_7] (be1x0 HB.out GE359.out) (below_size (be1x0 HB.out GE359.out)) ?_; clear HB; intro gb360 w20 BK360 HB GE360 hb hg; have NB359_360 := nbx0 BK359 hg; have NB360_359 := ncx0 BK359 hg; replace BK359 := kbx0 BK359 hb; clear hb hg; have hnb21 := NB360_359.out; have hnc21 := NB359_360.out; obtain ⟨hcz22_0, hcz22_1, hcz22_2, hcz22_3, hcz22_4, hcz22_5, hcz22_6, hcz22_7, hfz22_0, hfz22_1, hfz22_2, hfz22_3, hfz22_4, hfz22_5, hfz22_6, hfz22_7⟩ := cf8x0 BK360.out; obtain ⟨ad361, rfl, hx361_0, p361, q361⟩ := abx0 HB.out HR1_2.out a2; obtain ⟨hcz23_0, hcz23_1, hcz23_2, hcz23_3, hcz23_4, hcz23_5, hfz23_0, hfz23_1, hfz23_2, hfz23_3, hfz23_4, hfz23_5⟩ := cf6x0 BK359.out; obtain ⟨ad362, rfl, hx362_0, p362, q362⟩ := abx0 HB.out HR0_4.out a2))
      go_ret
      exact ⟨by first | rfl | (simp [errW_none, errW_some] <;> rfl) | (simp [*, errW_none, errW_some] <;> rfl), be2x0 HB.out GE359.out GE360.out⟩
    ·rw [if_neg c12] at H
     exact absurd H (by simp)
  ·rw [if_neg c6] at H
   exact absurd H (by simp)
 ·rw [if_neg c5] at H
  exact absurd H (by simp)

end Go.Proofs.Ytloddihakhgcdaa.PFnExactDestinationSums
