/- This text is this session's own, not the print's: programs (wip/squeeze.py and others) made it out of what print.sh, or wip/ownprint.py, had written (BYTES set higher), its facts said by short words. -/
import Derived.Test.YtloddihakhgcdaaPFnExactDestinationSumsx0
import Derived.Test.YtloddihakhgcdaaPFnExactDestinationSumswx0
namespace Go.Proofs.Ytloddihakhgcdaa.PFnExactDestinationSums
open Go.RowKit Go.Proofs.YtloddihakhgcdaaW.PrintWords Go.Proofs.YtloddihakhgcdaaW.PrintLast Go.Proofs.YtloddihakhgcdaaW.PrintMore
attribute [local go_sem] max2_int min2_int max_two min_two max_three min_three max_four min_four   -- for this text's walks alone
set_option linter.unusedVariables false
set_option linter.unusedSimpArgs false

/-! ### impl_isPlan: function 41 -/
mutual
def impl_isPlan.j0 : Nat → Bool → List (List Int) → List Int → List Int → Int → Int → Int → Int → Int → Int → List Int → Option (Bool)
 | 0, _, _, _, _, _, _, _, _, _, _, _ => none
 | k + 1, x20, x317000, x317001, x317002, x317003, x317004, x317005, x317006, x317007, x318000, x318001 => if x20 = true then (some false) else (impl_isPlan.l0 k x318001 (x318001.length : Int) 0 x317000 x317001 x317002 x317003 x317004 x317005 x317006 x317007)
def impl_isPlan.l0 : Nat → List Int → Int → Int → List (List Int) → List Int → List Int → Int → Int → Int → Int → Int → Option (Bool)
 | 0, _, _, _, _, _, _, _, _, _, _, _ => none
 | k + 1, x22, x23, x24, x317000, x317001, x317002, x317003, x317004, x317005, x317006, x317007 => if x24 < x23 then (if 0 ≤ x24 then (if x24 < (x22.length : Int) then (if (rd x22 x24) < (-1) then (some false) else (if (rd x22 x24) ≥ x317005 then (some false) else (impl_isPlan.l0 k x22 x23 (wrap64 (x24 + 1)) x317000 x317001 x317002 x317003 x317004 x317005 x317006 x317007))) else (none)) else (none)) else (some true)
end
def impl_isPlan.f (k : Nat) (l0_0 : List (List Int)) (l0_1 : List Int) (l0_2 : List Int) (a0_3 : Int) (a0_4 : Int) (a0_5 : Int) (a0_6 : Int) (a0_7 : Int) (a1_0 : Int) (l1_1 : List Int) : Option (Bool) := if a1_0 = a0_5 then (impl_isPlan.j0 k ((l1_1.length : Int) != (l0_0.length : Int)) l0_0 l0_1 l0_2 a0_3 a0_4 a0_5 a0_6 a0_7 a1_0 l1_1) else (impl_isPlan.j0 k true l0_0 l0_1 l0_2 a0_3 a0_4 a0_5 a0_6 a0_7 a1_0 l1_1)
theorem impl_isPlan.mono_l : ∀ k, (∀ y0 y1 y2 y3 y4 y5 y6 y7 y8 y9 y10, LeO (impl_isPlan.j0 k y0 y1 y2 y3 y4 y5 y6 y7 y8 y9 y10) (impl_isPlan.j0 (k + 1) y0 y1 y2 y3 y4 y5 y6 y7 y8 y9 y10)) ∧ (∀ y0 y1 y2 y3 y4 y5 y6 y7 y8 y9 y10, LeO (impl_isPlan.l0 k y0 y1 y2 y3 y4 y5 y6 y7 y8 y9 y10) (impl_isPlan.l0 (k + 1) y0 y1 y2 y3 y4 y5 y6 y7 y8 y9 y10))
 | 0 => ⟨fun _ _ _ _ _ _ _ _ _ _ _ r h => by simp [impl_isPlan.j0] at h, fun _ _ _ _ _ _ _ _ _ _ _ r h => by simp [impl_isPlan.l0] at h⟩
 | k + 1 => by
  obtain ⟨ih0, ih1⟩ := impl_isPlan.mono_l k
  refine ⟨?_, ?_⟩
  ·intro y0 y1 y2 y3 y4 y5 y6 y7 y8 y9 y10
   unfold impl_isPlan.j0
   repeat' first
   | (with_reducible exact ih0 _ _ _ _ _ _ _ _ _ _ _)
   | (with_reducible exact ih1 _ _ _ _ _ _ _ _ _ _ _)
   | (with_reducible exact LeO.refl _)
   | (with_reducible exact LeO.none _)
   | (with_reducible refine LeO.ite ?_ ?_)
   | (with_reducible refine LeO.bind ?_ (fun _ => ?_))
   | exact ih0 _ _ _ _ _ _ _ _ _ _ _
   | exact ih1 _ _ _ _ _ _ _ _ _ _ _
   | exact LeO.none _
   | refine LeO.ite ?_ ?_
   | refine LeO.bind ?_ (fun _ => ?_)
  ·intro y0 y1 y2 y3 y4 y5 y6 y7 y8 y9 y10
   unfold impl_isPlan.l0
   repeat' first
   | (with_reducible exact ih0 _ _ _ _ _ _ _ _ _ _ _)
   | (with_reducible exact ih1 _ _ _ _ _ _ _ _ _ _ _)
   | (with_reducible exact LeO.refl _)
   | (with_reducible exact LeO.none _)
   | (with_reducible refine LeO.ite ?_ ?_)
   | (with_reducible refine LeO.bind ?_ (fun _ => ?_))
   | exact ih0 _ _ _ _ _ _ _ _ _ _ _
   | exact ih1 _ _ _ _ _ _ _ _ _ _ _
   | exact LeO.none _
   | refine LeO.ite ?_ ?_
   | refine LeO.bind ?_ (fun _ => ?_)
theorem impl_isPlan.mono : ∀ a0 a1 a2 a3 a4 a5 a6 a7 a8 a9 k, LeO (impl_isPlan.f k a0 a1 a2 a3 a4 a5 a6 a7 a8 a9) (impl_isPlan.f (k + 1) a0 a1 a2 a3 a4 a5 a6 a7 a8 a9) := by
 intro a0 a1 a2 a3 a4 a5 a6 a7 a8 a9 k
 obtain ⟨ih0, ih1⟩ := impl_isPlan.mono_l k
 unfold impl_isPlan.f
 repeat' first
   | (with_reducible exact ih0 _ _ _ _ _ _ _ _ _ _ _)
   | (with_reducible exact ih1 _ _ _ _ _ _ _ _ _ _ _)
   | (with_reducible exact LeO.refl _)
   | (with_reducible exact LeO.none _)
   | (with_reducible refine LeO.ite ?_ ?_)
   | (with_reducible refine LeO.bind ?_ (fun _ => ?_))
   | exact ih0 _ _ _ _ _ _ _ _ _ _ _
   | exact ih1 _ _ _ _ _ _ _ _ _ _ _
   | exact LeO.none _
   | refine LeO.ite ?_ ?_
   | refine LeO.bind ?_ (fun _ => ?_)
set_option maxHeartbeats 8000000 in
set_option maxRecDepth 100000 in
theorem impl_isPlan.calls (k : Nat) (A0_0 : Option Addr) (c0_0 : Nat) (l0_0 : List (List Int)) (A0_1 : Option Addr) (c0_1 : Nat) (l0_1 : List Int) (A0_2 : Option Addr) (c0_2 : Nat) (l0_2 : List Int) (a0_3 : Int) (a0_4 : Int) (a0_5 : Int) (a0_6 : Int) (a0_7 : Int) (a1_0 : Int) (A1_1 : Option Addr) (c1_1 : Nat) (l1_1 : List Int) (r : Bool) (w : World) (hr0_0 : Kd.C (Kd.slice 3 (Kd.int .i64)) w A0_0 l0_0.length l0_0) (hc0_0 : l0_0.length ≤ c0_0) (hr0_1 : Kd.C (Kd.int .i64) w A0_1 l0_1.length l0_1) (hc0_1 : l0_1.length ≤ c0_1) (hr0_2 : Kd.C (Kd.int .i64) w A0_2 l0_2.length l0_2) (hc0_2 : l0_2.length ≤ c0_2) (hr1_1 : Kd.C (Kd.int .i64) w A1_1 l1_1.length l1_1) (hc1_1 : l1_1.length ≤ c1_1) (h : impl_isPlan.f k l0_0 l0_1 l0_2 a0_3 a0_4 a0_5 a0_6 a0_7 a1_0 l1_1 = some r) :
  Calls Try.prog 41 #[.agg #[.slice A0_0 l0_0.length c0_0, .slice A0_1 l0_1.length c0_1, .slice A0_2 l0_2.length c0_2, .int .i64 a0_3, .int .i64 a0_4, .int .i64 a0_5, .int .i64 a0_6, .int .i64 a0_7], .agg #[.int .i64 a1_0, .slice A1_1 l1_1.length c1_1]] w fun e w' => e = .returned (.bool r) ∧ Below w.heap.size w w' := by
 have hu45 := Try.underlying45
 have hu47 := Try.underlying47
 have HR0_0 := m_ hr0_0
 have HC0_0 := m_ hc0_0
 clear hr0_0 hc0_0
 have HR0_1 := m_ hr0_1
 have HC0_1 := m_ hc0_1
 clear hr0_1 hc0_1
 have HR0_2 := m_ hr0_2
 have HC0_2 := m_ hc0_2
 clear hr0_2 hc0_2
 have HR1_1 := m_ hr1_1
 have HC1_1 := m_ hc1_1
 clear hr1_1 hc1_1
 have HB := m_ (Below.refl w.heap.size w)
 have H : (if a1_0 = a0_5 then (impl_isPlan.j0 k ((l1_1.length : Int) != (l0_0.length : Int)) l0_0 l0_1 l0_2 a0_3 a0_4 a0_5 a0_6 a0_7 a1_0 l1_1) else (impl_isPlan.j0 k true l0_0 l0_1 l0_2 a0_3 a0_4 a0_5 a0_6 a0_7 a1_0 l1_1)) = some r := h
 clear h
 have HC3 := m_ H
 clear H
 go_enter Try.func41, Try.ntmps41
 go_upto_region 1 with (first | ((with_reducible refine gate_dst (N := 2) rfl ?_); (try (refine gate_guard (by rfl) ?_; dsimp only)); refine bxx0 2 45 #[.slice A0_0 l0_0.length c0_0, .slice A0_1 l0_1.length c0_1, .slice A0_2 l0_2.length c0_2, .int .i64 a0_3, .int .i64 a0_4, .int .i64 a0_5, .int .i64 a0_6, .int .i64 a0_7] (be0x0 HB.out) (below_size (be0x0 HB.out)) ?_; clear HB; intro gb316 w4 BK316 HB GE316 hb hg; clear hb hg) | ((with_reducible refine gate_dst (N := 3) rfl ?_); (try (refine gate_guard (by rfl) ?_; dsimp only)); refine bxx0 3 47 #[.int .i64 a1_0, .slice A1_1 l1_1.length c1_1] (be1x0 HB.out GE316.out) (below_size (be1x0 HB.out GE316.out)) ?_; clear HB; intro gb317 w5 BK317 HB GE317 hb hg; have NB316_317 := nbx0 BK316 hg; have NB317_316 := ncx0 BK316 hg; replace BK316 := kbx0 BK316 hb; clear hb hg))
 (try simp only [Act.put, List.setIfInBounds_toArray, List.set_cons_zero, List.set_cons_succ])
 go_cut [20] (fun v20 wc => ∃ (kq : Nat) (x20_2 : Bool), v20 = .bool x20_2 ∧ Aside0 (impl_isPlan.j0 kq x20_2 l0_0 l0_1 l0_2 a0_3 a0_4 a0_5 a0_6 a0_7 a1_0 l1_1 = some r) ∧ Aside0 (kq ≤ k) ∧ Aside0 (wc.heap[gb316]? = some (.cells #[(.slice A0_0 l0_0.length c0_0), (.slice A0_1 l0_1.length c0_1), (.slice A0_2 l0_2.length c0_2), .int .i64 a0_3, .int .i64 a0_4, .int .i64 a0_5, .int .i64 a0_6, .int .i64 a0_7] 45 (0, 0))) ∧ Aside0 (wc.heap[gb317]? = some (.cells #[.int .i64 a1_0, (.slice A1_1 l1_1.length c1_1)] 47 (0, 0))) ∧ Aside0 (Below w.heap.size w wc))
 case first =>
  have H := HC3.out
  clear HC3
  by_cases c6 : a1_0 = a0_5
  ·rw [if_pos c6] at H
   have c6b0 : (a1_0 == a0_5) = true := beq_iff_eq.mpr c6
   have c6b1 : (a1_0 != a0_5) = false := bne_eq_false_iff_eq.mpr c6
   clear c6
   (first | rw [c6b0] | (simp only [i64_w, i32_w]; rw [c6b0]) | skip)
   have H' := m_ H
   clear H
   have hnb7 := NB317_316.out
   have hnc7 := NB316_317.out
   obtain ⟨hcz8_0, hcz8_1, hfz8_0, hfz8_1⟩ := cf2x0 BK317.out
   obtain ⟨hcz9_0, hcz9_1, hcz9_2, hcz9_3, hcz9_4, hcz9_5, hcz9_6, hcz9_7, hfz9_0, hfz9_1, hfz9_2, hfz9_3, hfz9_4, hfz9_5, hfz9_6, hfz9_7⟩ := cf8x0 BK316.out
   go_wp2
   go_meet
   case rel => exact ⟨_, (((l1_1.length : Int) != (l0_0.length : Int))), frx0, H', ⟨by first | omega | exact Nat.le_refl _⟩, ⟨rBx0 BK316.out⟩, ⟨rBx0 BK317.out⟩, ⟨be2x0 HB.out GE316.out GE317.out⟩⟩
  ·rw [if_neg c6] at H
   have c6b0 : (a1_0 == a0_5) = false := beq_eq_false_iff_ne.mpr c6
   have c6b1 : (a1_0 != a0_5) = true := bne_iff_ne.mpr c6
   (first | rw [c6b0] | (simp only [i64_w, i32_w]; rw [c6b0]) | skip)
   have H' := m_ H
   clear H
   have hnb10 := NB317_316.out
   have hnc10 := NB316_317.out
   obtain ⟨hcz11_0, hcz11_1, hfz11_0, hfz11_1⟩ := cf2x0 BK317.out
   obtain ⟨hcz12_0, hcz12_1, hcz12_2, hcz12_3, hcz12_4, hcz12_5, hcz12_6, hcz12_7, hfz12_0, hfz12_1, hfz12_2, hfz12_3, hfz12_4, hfz12_5, hfz12_6, hfz12_7⟩ := cf8x0 BK316.out
   go_wp2
   go_meet
   case rel => exact ⟨_, (true), frx0, H', ⟨by first | omega | exact Nat.le_refl _⟩, ⟨rBx0 BK316.out⟩, ⟨rBx0 BK317.out⟩, ⟨be2x0 HB.out GE316.out GE317.out⟩⟩
 case rest =>
  clear HC3
  try clear c6; try clear c6b0; try clear c6b1; try clear hcz11_0 hcz11_1; try clear hcz12_0 hcz12_1 hcz12_2 hcz12_3 hcz12_4 hcz12_5 hcz12_6 hcz12_7; try clear hcz8_0 hcz8_1; try clear hcz9_0 hcz9_1 hcz9_2 hcz9_3 hcz9_4 hcz9_5 hcz9_6 hcz9_7; try clear hfz11_0 hfz11_1; try clear hfz12_0 hfz12_1 hfz12_2 hfz12_3 hfz12_4 hfz12_5 hfz12_6 hfz12_7; try clear hfz8_0 hfz8_1; try clear hfz9_0 hfz9_1 hfz9_2 hfz9_3 hfz9_4 hfz9_5 hfz9_6 hfz9_7
  obtain ⟨kq, x20_2, rfl, HA, HJ2, BK316, BK317, HB⟩ := hcut
  cases kq with
  | zero => exact absurd HA.out (by simp [impl_isPlan.j0])
  | succ kj2 =>
   have H := HA.out
   clear HA
   simp only [impl_isPlan.j0] at H
   by_cases c13 : x20_2 = true
   ·subst c13
    have H1 : (some false) = some r := by rw [if_pos rfl] at H; exact H
    clear H
    have H := H1
    clear H1
    obtain rfl := Option.some.inj H
    go_wp2
    go_ret
    exact ⟨by first | rfl | (simp [errW_none, errW_some] <;> rfl) | (simp [*, errW_none, errW_some] <;> rfl), be2x0 HB.out GE316.out GE317.out⟩
   ·replace c13 := Bool.eq_false_iff.mpr c13
    subst c13
    have H1 : (impl_isPlan.l0 kj2 l1_1 (l1_1.length : Int) 0 l0_0 l0_1 l0_2 a0_3 a0_4 a0_5 a0_6 a0_7) = some r := by rw [if_neg (show ¬ (false = true) by decide)] at H; exact H
    clear H
    have H := H1
    clear H1
    have H' := m_ H
    clear H
    have hnb14 := NB317_316.out
    have hnc14 := NB316_317.out
    obtain ⟨hcz15_0, hcz15_1, hfz15_0, hfz15_1⟩ := cf2x0 BK317.out
    go_wp2
    go_loopg [24] kj2 (fun kq v24 w' => ∃ (x24_2 : Int), v24 = .int .i64 x24_2 ∧ Aside0 (impl_isPlan.l0 kq l1_1 (l1_1.length : Int) x24_2 l0_0 l0_1 l0_2 a0_3 a0_4 a0_5 a0_6 a0_7 = some r) ∧ Aside0 (kq ≤ kj2) ∧ Aside0 (w'.heap[gb316]? = some (.cells #[(.slice A0_0 l0_0.length c0_0), (.slice A0_1 l0_1.length c0_1), (.slice A0_2 l0_2.length c0_2), .int .i64 a0_3, .int .i64 a0_4, .int .i64 a0_5, .int .i64 a0_6, .int .i64 a0_7] 45 (0, 0))) ∧ Aside0 (w'.heap[gb317]? = some (.cells #[.int .i64 a1_0, (.slice A1_1 l1_1.length c1_1)] 47 (0, 0))) ∧ Aside0 (Below w.heap.size w w'))
    case atStart => exact ⟨(0), frx0, H', ⟨Nat.le_refl _⟩, ⟨rBx0 BK316.out⟩, ⟨rBx0 BK317.out⟩, ⟨be2x0 HB.out GE316.out GE317.out⟩⟩
    case round =>
     clear H'
     try clear c13; try clear hcz15_0 hcz15_1 hfz15_0 hfz15_1
     obtain ⟨x24_2, rfl, HA, HK2, BK316, BK317, HB⟩ := hrel
     cases gk with
     | zero => exact absurd HA.out (by simp [impl_isPlan.l0])
     | succ k2 =>
      have H := HA.out
      clear HA
      simp only [impl_isPlan.l0] at H
      by_cases c16 : x24_2 < (l1_1.length : Int)
      ·rw [if_pos c16] at H
       have c16b0 := decide_eq_true c16
       clear c16
       by_cases c17 : 0 ≤ x24_2
       ·rw [if_pos c17] at H
        have c17b0 := decide_eq_true c17
        clear c17
        by_cases c18 : x24_2 < (l1_1.length : Int)
        ·rw [if_pos c18] at H
         have c18b0 := decide_eq_true c18
         clear c18
         by_cases c19 : (rd l1_1 x24_2) < (-1)
         ·rw [if_pos c19] at H
          have c19b0 := decide_eq_true c19
          clear c19
          obtain rfl := Option.some.inj H
          obtain ⟨ad318, rfl, hx318_0, p318, q318⟩ := abx0 HB.out HR1_1.out x24_2
          go_wp2
          go_ret
          exact ⟨by first | rfl | (simp [errW_none, errW_some] <;> rfl) | (simp [*, errW_none, errW_some] <;> rfl), be2x0 HB.out GE316.out GE317.out⟩
         ·rw [if_neg c19] at H
          have c19b0 := decide_eq_false c19
          clear c19
          by_cases c20 : (rd l1_1 x24_2) ≥ a0_5
          ·rw [if_pos c20] at H
           have c20b0 : decide (a0_5 ≤ (rd l1_1 x24_2)) = true := decide_eq_true c20
           clear c20
           obtain rfl := Option.some.inj H
           obtain ⟨ad318, rfl, hx318_0, p318, q318⟩ := abx0 HB.out HR1_1.out x24_2
           have hnb21 := NB316_317.out
           have hnc21 := NB317_316.out
           obtain ⟨hcz22_0, hcz22_1, hcz22_2, hcz22_3, hcz22_4, hcz22_5, hcz22_6, hcz22_7, hfz22_0, hfz22_1, hfz22_2, hfz22_3, hfz22_4, hfz22_5, hfz22_6, hfz22_7⟩ := cf8x0 BK316.out
           go_wp2
           go_ret
           exact ⟨by first | rfl | (simp [errW_none, errW_some] <;> rfl) | (simp [*, errW_none, errW_some] <;> rfl), be2x0 HB.out GE316.out GE317.out⟩
          ·rw [if_neg c20] at H
           have c20b0 : decide (a0_5 ≤ (rd l1_1 x24_2)) = false := decide_eq_false c20
           clear c20
           have H' := m_ H
           clear H
           obtain ⟨ad318, rfl, hx318_0, p318, q318⟩ := abx0 HB.out HR1_1.out x24_2
           have hnb23 := NB316_317.out
           have hnc23 := NB317_316.out
           obtain ⟨hcz24_0, hcz24_1, hcz24_2, hcz24_3, hcz24_4, hcz24_5, hcz24_6, hcz24_7, hfz24_0, hfz24_1, hfz24_2, hfz24_3, hfz24_4, hfz24_5, hfz24_6, hfz24_7⟩ := cf8x0 BK316.out
           go_wp2
           go_roundg k2
           case measure => have := HJ2.out; have := HK2.out; omega
           case rel => exact ⟨(wrap64 (x24_2 + 1)), frx0, H', ⟨by have := HJ2.out; have := HK2.out; omega⟩, ⟨rBx0 BK316.out⟩, ⟨rBx0 BK317.out⟩, ⟨be2x0 HB.out GE316.out GE317.out⟩⟩
        ·rw [if_neg c18] at H
         exact absurd H (by simp)
       ·rw [if_neg c17] at H
        exact absurd H (by simp)
      ·rw [if_neg c16] at H
       have c16b0 := decide_eq_false c16
       clear c16
       obtain rfl := Option.some.inj H
       go_wp2
       go_ret
       exact ⟨by first | rfl | (simp [errW_none, errW_some] <;> rfl) | (simp [*, errW_none, errW_some] <;> rfl), be2x0 HB.out GE316.out GE317.out⟩

/-! ### impl_keepsOrder: function 70 -/
def impl_keepsOrder.l0 : Nat → Int → List Int → Int → Int → Int → List Int → Option (Bool)
 | 0, _, _, _, _, _, _ => none
 | k + 1, x2, x13, x14, x15, x321000, x321001 => if x15 < x14 then (if 0 ≤ x15 then (if x15 < (x13.length : Int) then (if 0 ≤ x2 then (if x2 < (x321001.length : Int) then (if (rd x321001 x2) ≥ 0 then (if 0 ≤ (rd x13 x15) then (if (rd x13 x15) < (x321001.length : Int) then (if (rd x321001 (rd x13 x15)) < 0 then (some false) else (if (rd x321001 (rd x13 x15)) > (rd x321001 x2) then (some false) else (impl_keepsOrder.l0 k x2 x13 x14 (wrap64 (x15 + 1)) x321000 x321001))) else (none)) else (none)) else (impl_keepsOrder.l0 k x2 x13 x14 (wrap64 (x15 + 1)) x321000 x321001)) else (none)) else (none)) else (none)) else (none)) else (some true)
def impl_keepsOrder.f (k : Nat) (l0_0 : List (List Int)) (l0_1 : List Int) (l0_2 : List Int) (a0_3 : Int) (a0_4 : Int) (a0_5 : Int) (a0_6 : Int) (a0_7 : Int) (a1_0 : Int) (l1_1 : List Int) (a2 : Int) : Option (Bool) := if 0 ≤ a2 then (if a2 < (l0_0.length : Int) then (impl_keepsOrder.l0 k a2 (rd_L1 l0_0 a2) ((rd_L1 l0_0 a2).length : Int) 0 a1_0 l1_1) else (none)) else (none)
theorem impl_keepsOrder.mono_l : ∀ k, (∀ y0 y1 y2 y3 y4 y5, LeO (impl_keepsOrder.l0 k y0 y1 y2 y3 y4 y5) (impl_keepsOrder.l0 (k + 1) y0 y1 y2 y3 y4 y5))
 | 0 => fun _ _ _ _ _ _ r h => by simp [impl_keepsOrder.l0] at h
 | k + 1 => by
  have ih0 := impl_keepsOrder.mono_l k
  ·intro y0 y1 y2 y3 y4 y5
   unfold impl_keepsOrder.l0
   repeat' first
   | (with_reducible exact ih0 _ _ _ _ _ _)
   | (with_reducible exact LeO.refl _)
   | (with_reducible exact LeO.none _)
   | (with_reducible refine LeO.ite ?_ ?_)
   | (with_reducible refine LeO.bind ?_ (fun _ => ?_))
   | exact ih0 _ _ _ _ _ _
   | exact LeO.none _
   | refine LeO.ite ?_ ?_
   | refine LeO.bind ?_ (fun _ => ?_)
theorem impl_keepsOrder.mono : ∀ a0 a1 a2 a3 a4 a5 a6 a7 a8 a9 a10 k, LeO (impl_keepsOrder.f k a0 a1 a2 a3 a4 a5 a6 a7 a8 a9 a10) (impl_keepsOrder.f (k + 1) a0 a1 a2 a3 a4 a5 a6 a7 a8 a9 a10) := by
 intro a0 a1 a2 a3 a4 a5 a6 a7 a8 a9 a10 k
 have ih0 := impl_keepsOrder.mono_l k
 unfold impl_keepsOrder.f
 repeat' first
   | (with_reducible exact ih0 _ _ _ _ _ _)
   | (with_reducible exact LeO.refl _)
   | (with_reducible exact LeO.none _)
   | (with_reducible refine LeO.ite ?_ ?_)
   | (with_reducible refine LeO.bind ?_ (fun _ => ?_))
   | exact ih0 _ _ _ _ _ _
   | exact LeO.none _
   | refine LeO.ite ?_ ?_
   | refine LeO.bind ?_ (fun _ => ?_)
set_option maxHeartbeats 8000000 in
set_option maxRecDepth 100000 in
theorem impl_keepsOrder.calls (k : Nat) (A0_0 : Option Addr) (c0_0 : Nat) (l0_0 : List (List Int)) (A0_1 : Option Addr) (c0_1 : Nat) (l0_1 : List Int) (A0_2 : Option Addr) (c0_2 : Nat) (l0_2 : List Int) (a0_3 : Int) (a0_4 : Int) (a0_5 : Int) (a0_6 : Int) (a0_7 : Int) (a1_0 : Int) (A1_1 : Option Addr) (c1_1 : Nat) (l1_1 : List Int) (a2 : Int) (r : Bool) (w : World) (hr0_0 : Kd.C (Kd.slice 3 (Kd.int .i64)) w A0_0 l0_0.length l0_0) (hc0_0 : l0_0.length ≤ c0_0) (hr0_1 : Kd.C (Kd.int .i64) w A0_1 l0_1.length l0_1) (hc0_1 : l0_1.length ≤ c0_1) (hr0_2 : Kd.C (Kd.int .i64) w A0_2 l0_2.length l0_2) (hc0_2 : l0_2.length ≤ c0_2) (hr1_1 : Kd.C (Kd.int .i64) w A1_1 l1_1.length l1_1) (hc1_1 : l1_1.length ≤ c1_1) (h : impl_keepsOrder.f k l0_0 l0_1 l0_2 a0_3 a0_4 a0_5 a0_6 a0_7 a1_0 l1_1 a2 = some r) :
  Calls Try.prog 70 #[.agg #[.slice A0_0 l0_0.length c0_0, .slice A0_1 l0_1.length c0_1, .slice A0_2 l0_2.length c0_2, .int .i64 a0_3, .int .i64 a0_4, .int .i64 a0_5, .int .i64 a0_6, .int .i64 a0_7], .agg #[.int .i64 a1_0, .slice A1_1 l1_1.length c1_1], .int .i64 a2] w fun e w' => e = .returned (.bool r) ∧ Below w.heap.size w w' := by
 have hu45 := Try.underlying45
 have hu47 := Try.underlying47
 have HR0_0 := m_ hr0_0
 have HC0_0 := m_ hc0_0
 clear hr0_0 hc0_0
 have HR0_1 := m_ hr0_1
 have HC0_1 := m_ hc0_1
 clear hr0_1 hc0_1
 have HR0_2 := m_ hr0_2
 have HC0_2 := m_ hc0_2
 clear hr0_2 hc0_2
 have HR1_1 := m_ hr1_1
 have HC1_1 := m_ hc1_1
 clear hr1_1 hc1_1
 have HB := m_ (Below.refl w.heap.size w)
 have H : (if 0 ≤ a2 then (if a2 < (l0_0.length : Int) then (impl_keepsOrder.l0 k a2 (rd_L1 l0_0 a2) ((rd_L1 l0_0 a2).length : Int) 0 a1_0 l1_1) else (none)) else (none)) = some r := h
 clear h
 by_cases c4 : 0 ≤ a2
 ·rw [if_pos c4] at H
  have c4b0 := decide_eq_true c4
  clear c4
  by_cases c5 : a2 < (l0_0.length : Int)
  ·rw [if_pos c5] at H
   have c5b0 := decide_eq_true c5
   clear c5
   have H' := m_ H
   clear H
   go_enter Try.func70, Try.ntmps70
   go_wp2_with (first | ((with_reducible refine gate_dst (N := 3) rfl ?_); refine bxx0 3 45 #[.slice A0_0 l0_0.length c0_0, .slice A0_1 l0_1.length c0_1, .slice A0_2 l0_2.length c0_2, .int .i64 a0_3, .int .i64 a0_4, .int .i64 a0_5, .int .i64 a0_6, .int .i64 a0_7] (be0x0 HB.out) (below_size (be0x0 HB.out)) ?_; clear HB; intro gb319 w6 BK319 HB GE319 hb hg; clear hb hg) | ((with_reducible refine gate_dst (N := 4) rfl ?_); refine bxx0 4 47 #[.int .i64 a1_0, .slice A1_1 l1_1.length c1_1] (be1x0 HB.out GE319.out) (below_size (be1x0 HB.out GE319.out)) ?_; clear HB; intro gb320 w7 BK320 HB GE320 hb hg; have NB319_320 := nbx0 BK319 hg; have NB320_319 := ncx0 BK319 hg; replace BK319 := kbx0 BK319 hb; clear hb hg; have hnb8 := NB319_320.out; have hnc8 := NB320_319.out; obtain ⟨hcz9_0, hcz9_1, hcz9_2, hcz9_3, hcz9_4, hcz9_5, hcz9_6, hcz9_7, hfz9_0, hfz9_1, hfz9_2, hfz9_3, hfz9_4, hfz9_5, hfz9_6, hfz9_7⟩ := cf8x0 BK319.out; have p321 : 0 ≤ (a2 : Int) := dax0; have q321 : a2 < (l0_0.length : Int) := dax0; obtain ⟨ad321, A321_0, c321_0, e321, hx321_0, hl321_0, hi321_0⟩ := at_L1 HR0_0.out a2 p321 q321; cases e321; replace hx321_0 := (HB.out.cell (World.block_lt_of_cell? w _ hx321_0)).trans hx321_0; have HR321_0 := m_ hi321_0; have HC321_0 := m_ hl321_0; clear hi321_0 hl321_0; replace p321 := eq_true p321; replace q321 := eq_true q321))
   repeat (go_quiet (first | ((with_reducible refine gate_dst (N := 3) rfl ?_); refine bxx0 3 45 #[.slice A0_0 l0_0.length c0_0, .slice A0_1 l0_1.length c0_1, .slice A0_2 l0_2.length c0_2, .int .i64 a0_3, .int .i64 a0_4, .int .i64 a0_5, .int .i64 a0_6, .int .i64 a0_7] (be0x0 HB.out) (below_size (be0x0 HB.out)) ?_; clear HB; intro gb319 w6 BK319 HB GE319 hb hg; clear hb hg) | ((with_reducible refine gate_dst (N := 4) rfl ?_); refine bxx0 4 47 #[.int .i64 a1_0, .slice A1_1 l1_1.length c1_1] (be1x0 HB.out GE319.out) (below_size (be1x0 HB.out GE319.out)) ?_; clear HB; intro gb320 w7 BK320 HB GE320 hb hg; have NB319_320 := nbx0 BK319 hg; have NB320_319 := ncx0 BK319 hg; replace BK319 := kbx0 BK319 hb; clear hb hg; have hnb8 := NB319_320.out; have hnc8 := NB320_319.out; obtain ⟨hcz9_0, hcz9_1, hcz9_2, hcz9_3, hcz9_4, hcz9_5, hcz9_6, hcz9_7, hfz9_0, hfz9_1, hfz9_2, hfz9_3, hfz9_4, hfz9_5, hfz9_6, hfz9_7⟩ := cf8x0 BK319.out; have p321 : 0 ≤ (a2 : Int) := dax0; have q321 : a2 < (l0_0.length : Int) := dax0; obtain ⟨ad321, A321_0, c321_0, e321, hx321_0, hl321_0, hi321_0⟩ := at_L1 HR0_0.out a2 p321 q321; cases e321; replace hx321_0 := (HB.out.cell (World.block_lt_of_cell? w _ hx321_0)).trans hx321_0; have HR321_0 := m_ hi321_0; have HC321_0 := m_ hl321_0; clear hi321_0 hl321_0; replace p321 := eq_true p321; replace q321 := eq_true q321)); try go_wp2_with (first | ((with_reducible refine gate_dst (N := 3) rfl ?_); refine bxx0 3 45 #[.slice A0_0 l0_0.length c0_0, .slice A0_1 l0_1.length c0_1, .slice A0_2 l0_2.length c0_2, .int .i64 a0_3, .int .i64 a0_4, .int .i64 a0_5, .int .i64 a0_6, .int .i64 a0_7] (be0x0 HB.out) (below_size (be0x0 HB.out)) ?_; clear HB; intro gb319 w6 BK319 HB GE319 hb hg; clear hb hg) | ((with_reducible refine gate_dst (N := 4) rfl ?_); refine bxx0 4 47 #[.int .i64 a1_0, .slice A1_1 l1_1.length c1_1] (be1x0 HB.out GE319.out) (below_size (be1x0 HB.out GE319.out)) ?_; clear HB; intro gb320 w7 BK320 HB GE320 hb hg; have NB319_320 := nbx0 BK319 hg; have NB320_319 := ncx0 BK319 hg; replace BK319 := kbx0 BK319 hb; clear hb hg; have hnb8 := NB319_320.out; have hnc8 := NB320_319.out; obtain ⟨hcz9_0, hcz9_1, hcz9_2, hcz9_3, hcz9_4, hcz9_5, hcz9_6, hcz9_7, hfz9_0, hfz9_1, hfz9_2, hfz9_3, hfz9_4, hfz9_5, hfz9_6, hfz9_7⟩ := cf8x0 BK319.out; have p321 : 0 ≤ (a2 : Int) := dax0; have q321 : a2 < (l0_0.length : Int) := dax0; obtain ⟨ad321, A321_0, c321_0, e321, hx321_0, hl321_0, hi321_0⟩ := at_L1 HR0_0.out a2 p321 q321; cases e321; replace hx321_0 := (HB.out.cell (World.block_lt_of_cell? w _ hx321_0)).trans hx321_0; have HR321_0 := m_ hi321_0; have HC321_0 := m_ hl321_0; clear hi321_0 hl321_0; replace p321 := eq_true p321; replace q321 := eq_true q321)))
   go_loopg [15] k (fun kq v15 w' => ∃ (x15_1 : Int), v15 = .int .i64 x15_1 ∧ Aside0 (impl_keepsOrder.l0 kq a2 (rd_L1 l0_0 a2) ((rd_L1 l0_0 a2).length : Int) x15_1 a1_0 l1_1 = some r) ∧ Aside0 (kq ≤ k) ∧ Aside0 (w'.heap[gb319]? = some (.cells #[(.slice (some ad321) l0_0.length c0_0), (.slice A0_1 l0_1.length c0_1), (.slice A0_2 l0_2.length c0_2), .int .i64 a0_3, .int .i64 a0_4, .int .i64 a0_5, .int .i64 a0_6, .int .i64 a0_7] 45 (0, 0))) ∧ Aside0 (w'.heap[gb320]? = some (.cells #[.int .i64 a1_0, (.slice A1_1 l1_1.length c1_1)] 47 (0, 0))) ∧ Aside0 (Below w.heap.size w w'))
   case atStart => exact ⟨(0), frx0, H', ⟨Nat.le_refl _⟩, ⟨rBx0 BK319.out⟩, ⟨rBx0 BK320.out⟩, ⟨be2x0 HB.out GE319.out GE320.out⟩⟩
   case round =>
    clear H'
    try clear c4; try clear c4b0; try clear c5; try clear c5b0; try clear hcz9_0 hcz9_1 hcz9_2 hcz9_3 hcz9_4 hcz9_5 hcz9_6 hcz9_7 hfz9_0 hfz9_1 hfz9_2 hfz9_3 hfz9_4 hfz9_5 hfz9_6 hfz9_7; try clear hx321_0; try clear p321; try clear q321
    obtain ⟨x15_1, rfl, HA, HK1, BK319, BK320, HB⟩ := hrel
    cases gk with
    | zero => exact absurd HA.out (by simp [impl_keepsOrder.l0])
    | succ k1 =>
     have H := HA.out
     clear HA
     simp only [impl_keepsOrder.l0] at H
     by_cases c10 : x15_1 < ((rd_L1 l0_0 a2).length : Int)
     ·rw [if_pos c10] at H
      have c10b0 := decide_eq_true c10
      clear c10
      by_cases c11 : 0 ≤ x15_1
      ·rw [if_pos c11] at H
       have c11b0 := decide_eq_true c11
       clear c11
       by_cases c12 : x15_1 < ((rd_L1 l0_0 a2).length : Int)
       ·rw [if_pos c12] at H
        have c12b0 := decide_eq_true c12
        clear c12
        by_cases c13 : 0 ≤ a2
        ·rw [if_pos c13] at H
         have c13b0 := decide_eq_true c13
         clear c13
         by_cases c14 : a2 < (l1_1.length : Int)
         ·rw [if_pos c14] at H
          have c14b0 := decide_eq_true c14
          clear c14
          by_cases c15 : (rd l1_1 a2) ≥ 0
          ·rw [if_pos c15] at H
           have c15b0 : decide (0 ≤ (rd l1_1 a2)) = true := decide_eq_true c15
           clear c15
           by_cases c16 : 0 ≤ (rd (rd_L1 l0_0 a2) x15_1)
           ·rw [if_pos c16] at H
            have c16b0 := decide_eq_true c16
            clear c16
            by_cases c17 : (rd (rd_L1 l0_0 a2) x15_1) < (l1_1.length : Int)
            ·rw [if_pos c17] at H
             have c17b0 := decide_eq_true c17
             clear c17
             by_cases c18 : (rd l1_1 (rd (rd_L1 l0_0 a2) x15_1)) < 0
             ·rw [if_pos c18] at H
              have c18b0 := decide_eq_true c18
              clear c18
              obtain rfl := Option.some.inj H
              obtain ⟨ad322, rfl, hx322_0, p322, q322⟩ := abx0 HB.out HR321_0.out x15_1
              have hnb19 := NB320_319.out
              have hnc19 := NB319_320.out
              obtain ⟨hcz20_0, hcz20_1, hfz20_0, hfz20_1⟩ := cf2x0 BK320.out
              obtain ⟨ad323, rfl, hx323_0, p323, q323⟩ := abx0 HB.out HR1_1.out a2
              have p324 : 0 ≤ ((rd (rd_L1 l0_0 a2) x15_1) : Int) := dax0
              have q324 : (rd (rd_L1 l0_0 a2) x15_1) < (l1_1.length : Int) := dax0
              obtain ⟨ad324, e324, hx324_0⟩ := Kd.at_int HR1_1.out (rd (rd_L1 l0_0 a2) x15_1) p324 q324
              obtain rfl : ad323 = ad324 := (by injection e324)
              replace hx324_0 := (HB.out.cell (World.block_lt_of_cell? w _ hx324_0)).trans hx324_0
              replace p324 := eq_true p324
              replace q324 := eq_true q324
              go_wp2
              repeat (go_quiet (fail); try go_wp2)
              go_ret
              exact ⟨by first | rfl | (simp [errW_none, errW_some] <;> rfl) | (simp [*, errW_none, errW_some] <;> rfl), be2x0 HB.out GE319.out GE320.out⟩
             ·rw [if_neg c18] at H
              have c18b0 := decide_eq_false c18
              clear c18
              by_cases c21 : (rd l1_1 (rd (rd_L1 l0_0 a2) x15_1)) > (rd l1_1 a2)
              ·rw [if_pos c21] at H
               have c21b0 : decide ((rd l1_1 a2) < (rd l1_1 (rd (rd_L1 l0_0 a2) x15_1))) = true := decide_eq_true c21
               clear c21
               obtain rfl := Option.some.inj H
               obtain ⟨ad322, rfl, hx322_0, p322, q322⟩ := abx0 HB.out HR321_0.out x15_1
               have hnb22 := NB320_319.out
               have hnc22 := NB319_320.out
               obtain ⟨hcz23_0, hcz23_1, hfz23_0, hfz23_1⟩ := cf2x0 BK320.out
               obtain ⟨ad323, rfl, hx323_0, p323, q323⟩ := abx0 HB.out HR1_1.out a2
               have p324 : 0 ≤ ((rd (rd_L1 l0_0 a2) x15_1) : Int) := dax0
               have q324 : (rd (rd_L1 l0_0 a2) x15_1) < (l1_1.length : Int) := dax0
               obtain ⟨ad324, e324, hx324_0⟩ := Kd.at_int HR1_1.out (rd (rd_L1 l0_0 a2) x15_1) p324 q324
               obtain rfl : ad323 = ad324 := (by injection e324)
               replace hx324_0 := (HB.out.cell (World.block_lt_of_cell? w _ hx324_0)).trans hx324_0
               replace p324 := eq_true p324
               replace q324 := eq_true q324
               have p325 : 0 ≤ ((rd (rd_L1 l0_0 a2) x15_1) : Int) := dax0
               have q325 : (rd (rd_L1 l0_0 a2) x15_1) < (l1_1.length : Int) := dax0
               obtain ⟨ad325, e325, hx325_0⟩ := Kd.at_int HR1_1.out (rd (rd_L1 l0_0 a2) x15_1) p325 q325
               obtain rfl : ad323 = ad325 := (by injection e325)
               replace hx325_0 := (HB.out.cell (World.block_lt_of_cell? w _ hx325_0)).trans hx325_0
               replace p325 := eq_true p325
               replace q325 := eq_true q325
               have p326 : 0 ≤ (a2 : Int) := dax0
               have q326 : a2 < (l1_1.length : Int) := dax0
               obtain ⟨ad326, e326, hx326_0⟩ := Kd.at_int HR1_1.out a2 p326 q326
               obtain rfl : ad323 = ad326 := (by injection e326)
               replace hx326_0 := (HB.out.cell (World.block_lt_of_cell? w _ hx326_0)).trans hx326_0
               replace p326 := eq_true p326
               replace q326 := eq_true q326
               go_wp2
               repeat (go_quiet (fail); try go_wp2)
               go_ret
               exact ⟨by first | rfl | (simp [errW_none, errW_some] <;> rfl) | (simp [*, errW_none, errW_some] <;> rfl), be2x0 HB.out GE319.out GE320.out⟩
              ·rw [if_neg c21] at H
               have c21b0 : decide ((rd l1_1 a2) < (rd l1_1 (rd (rd_L1 l0_0 a2) x15_1))) = false := decide_eq_false c21
               clear c21
               have H' := m_ H
               clear H
               obtain ⟨ad322, rfl, hx322_0, p322, q322⟩ := abx0 HB.out HR321_0.out x15_1
               have hnb24 := NB320_319.out
               have hnc24 := NB319_320.out
               obtain ⟨hcz25_0, hcz25_1, hfz25_0, hfz25_1⟩ := cf2x0 BK320.out
               obtain ⟨ad323, rfl, hx323_0, p323, q323⟩ := abx0 HB.out HR1_1.out a2
               have p324 : 0 ≤ ((rd (rd_L1 l0_0 a2) x15_1) : Int) := dax0
               have q324 : (rd (rd_L1 l0_0 a2) x15_1) < (l1_1.length : Int) := dax0
               obtain ⟨ad324, e324, hx324_0⟩ := Kd.at_int HR1_1.out (rd (rd_L1 l0_0 a2) x15_1) p324 q324
               obtain rfl : ad323 = ad324 := (by injection e324)
               replace hx324_0 := (HB.out.cell (World.block_lt_of_cell? w _ hx324_0)).trans hx324_0
               replace p324 := eq_true p324
               replace q324 := eq_true q324
               have p325 : 0 ≤ ((rd (rd_L1 l0_0 a2) x15_1) : Int) := dax0
               have q325 : (rd (rd_L1 l0_0 a2) x15_1) < (l1_1.length : Int) := dax0
               obtain ⟨ad325, e325, hx325_0⟩ := Kd.at_int HR1_1.out (rd (rd_L1 l0_0 a2) x15_1) p325 q325
               obtain rfl : ad323 = ad325 := (by injection e325)
               replace hx325_0 := (HB.out.cell (World.block_lt_of_cell? w _ hx325_0)).trans hx325_0
               replace p325 := eq_true p325
               replace q325 := eq_true q325
               have p326 : 0 ≤ (a2 : Int) := dax0
               have q326 : a2 < (l1_1.length : Int) := dax0
               obtain ⟨ad326, e326, hx326_0⟩ := Kd.at_int HR1_1.out a2 p326 q326
               obtain rfl : ad323 = ad326 := (by injection e326)
               replace hx326_0 := (HB.out.cell (World.block_lt_of_cell? w _ hx326_0)).trans hx326_0
               replace p326 := eq_true p326
               replace q326 := eq_true q326
               go_wp2
               repeat (go_quiet (fail); try go_wp2)
               go_roundg k1
               case measure => have := HK1.out; omega
               case rel => exact ⟨(wrap64 (x15_1 + 1)), frx0, H', ⟨by have := HK1.out; omega⟩, ⟨rBx0 BK319.out⟩, ⟨rBx0 BK320.out⟩, ⟨be2x0 HB.out GE319.out GE320.out⟩⟩
            ·rw [if_neg c17] at H
             exact absurd H (by simp)
           ·rw [if_neg c16] at H
            exact absurd H (by simp)
          ·rw [if_neg c15] at H
           have c15b0 : decide (0 ≤ (rd l1_1 a2)) = false := decide_eq_false c15
           clear c15
           have H' := m_ H
           clear H
           obtain ⟨ad322, rfl, hx322_0, p322, q322⟩ := abx0 HB.out HR321_0.out x15_1
           have hnb26 := NB320_319.out
           have hnc26 := NB319_320.out
           obtain ⟨hcz27_0, hcz27_1, hfz27_0, hfz27_1⟩ := cf2x0 BK320.out
           obtain ⟨ad323, rfl, hx323_0, p323, q323⟩ := abx0 HB.out HR1_1.out a2
           go_wp2
           repeat (go_quiet (fail); try go_wp2)
           go_roundg k1
           case measure => have := HK1.out; omega
           case rel => exact ⟨(wrap64 (x15_1 + 1)), frx0, H', ⟨by have := HK1.out; omega⟩, ⟨rBx0 BK319.out⟩, ⟨rBx0 BK320.out⟩, ⟨be2x0 HB.out GE319.out GE320.out⟩⟩
         ·rw [if_neg c14] at H
          exact absurd H (by simp)
        ·rw [if_neg c13] at H
         exact absurd H (by simp)
       ·rw [if_neg c12] at H
        exact absurd H (by simp)
      ·rw [if_neg c11] at H
       exact absurd H (by simp)
     ·rw [if_neg c10] at H
      have c10b0 := decide_eq_false c10
      clear c10
      obtain rfl := Option.some.inj H
      go_wp2
      repeat (go_quiet (fail); try go_wp2)
      go_ret
      exact ⟨by first | rfl | (simp [errW_none, errW_some] <;> rfl) | (simp [*, errW_none, errW_some] <;> rfl), be2x0 HB.out GE319.out GE320.out⟩
  ·rw [if_neg c5] at H
   exact absurd H (by simp)
 ·rw [if_neg c4] at H
  exact absurd H (by simp)

end Go.Proofs.Ytloddihakhgcdaa.PFnExactDestinationSums
