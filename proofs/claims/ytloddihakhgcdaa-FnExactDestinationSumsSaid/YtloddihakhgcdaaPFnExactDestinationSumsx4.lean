/- This text is this session's own, not the print's: programs (wip/squeeze.py and others) made it out of what print.sh, or wip/ownprint.py, had written (BYTES set higher), its facts said by short words. -/
import Derived.Test.YtloddihakhgcdaaPFnExactDestinationSumsx0
import Derived.Test.YtloddihakhgcdaaPFnExactDestinationSumsx1
import Derived.Test.YtloddihakhgcdaaPFnExactDestinationSumsx3
import Derived.Test.YtloddihakhgcdaaPFnExactDestinationSumswx0
namespace Go.Proofs.Ytloddihakhgcdaa.PFnExactDestinationSums
open Go.RowKit Go.Proofs.YtloddihakhgcdaaW.PrintWords Go.Proofs.YtloddihakhgcdaaW.PrintLast Go.Proofs.YtloddihakhgcdaaW.PrintMore
attribute [local go_sem] max2_int min2_int max_two min_two max_three min_three max_four min_four   -- for this text's walks alone
set_option linter.unusedVariables false
set_option linter.unusedSimpArgs false

/-! ### spec_plTonnes: function 94 -/
mutual
def spec_plTonnes.l0 : Nat → List (List Int) → Int → List (List Int) → List Int → List Int → Int → Int → Int → Int → Int → Int → List Int → Option ((List (List Int)))
 | 0, _, _, _, _, _, _, _, _, _, _, _, _ => none
 | k + 1, x5, x6, x165000, x165001, x165002, x165003, x165004, x165005, x165006, x165007, x166000, x166001 => if x6 < x165005 then (spec_plTonnes.l1 k x5 x6 0 0 x166001 (x166001.length : Int) 0 x165000 x165001 x165002 x165003 x165004 x165005 x165006 x165007 x166000 x166001) else (some x5)
def spec_plTonnes.l1 : Nat → List (List Int) → Int → Int → Int → List Int → Int → Int → List (List Int) → List Int → List Int → Int → Int → Int → Int → Int → Int → List Int → Option ((List (List Int)))
 | 0, _, _, _, _, _, _, _, _, _, _, _, _, _, _, _, _, _ => none
 | k + 1, x5, x6, x7, x8, x18, x19, x20, x165000, x165001, x165002, x165003, x165004, x165005, x165006, x165007, x166000, x166001 => if x20 < x19 then (if 0 ≤ x20 then (if x20 < (x18.length : Int) then (if (rd x18 x20) = x6 then (if x20 < (x165001.length : Int) then (if x20 < (x165002.length : Int) then (if (rd x165002 x20) > 0 then (spec_plTonnes.l1 k x5 x6 (wrap64 (x7 + (rd x165001 x20))) (wrap64 (x8 + (rd x165001 x20))) x18 x19 (wrap64 (x20 + 1)) x165000 x165001 x165002 x165003 x165004 x165005 x165006 x165007 x166000 x166001) else (spec_plTonnes.l1 k x5 x6 (wrap64 (x7 + (rd x165001 x20))) x8 x18 x19 (wrap64 (x20 + 1)) x165000 x165001 x165002 x165003 x165004 x165005 x165006 x165007 x166000 x166001)) else (none)) else (none)) else (spec_plTonnes.l1 k x5 x6 x7 x8 x18 x19 (wrap64 (x20 + 1)) x165000 x165001 x165002 x165003 x165004 x165005 x165006 x165007 x166000 x166001)) else (none)) else (none)) else (if x5.length < 5864062014805 then (spec_plTonnes.l0 k (x5 ++ [(([x7, x8] : List Int))]) (wrap64 (x6 + 1)) x165000 x165001 x165002 x165003 x165004 x165005 x165006 x165007 x166000 x166001) else (none))
end
def spec_plTonnes.f (k : Nat) (l0_0 : List (List Int)) (l0_1 : List Int) (l0_2 : List Int) (a0_3 : Int) (a0_4 : Int) (a0_5 : Int) (a0_6 : Int) (a0_7 : Int) (a1_0 : Int) (l1_1 : List Int) : Option ((List (List Int))) := spec_plTonnes.l0 k ([] : List (List Int)) 0 l0_0 l0_1 l0_2 a0_3 a0_4 a0_5 a0_6 a0_7 a1_0 l1_1
theorem spec_plTonnes.mono_l : ∀ k, (∀ y0 y1 y2 y3 y4 y5 y6 y7 y8 y9 y10 y11, LeO (spec_plTonnes.l0 k y0 y1 y2 y3 y4 y5 y6 y7 y8 y9 y10 y11) (spec_plTonnes.l0 (k + 1) y0 y1 y2 y3 y4 y5 y6 y7 y8 y9 y10 y11)) ∧ (∀ y0 y1 y2 y3 y4 y5 y6 y7 y8 y9 y10 y11 y12 y13 y14 y15 y16, LeO (spec_plTonnes.l1 k y0 y1 y2 y3 y4 y5 y6 y7 y8 y9 y10 y11 y12 y13 y14 y15 y16) (spec_plTonnes.l1 (k + 1) y0 y1 y2 y3 y4 y5 y6 y7 y8 y9 y10 y11 y12 y13 y14 y15 y16))
 | 0 => ⟨fun _ _ _ _ _ _ _ _ _ _ _ _ r h => by simp [spec_plTonnes.l0] at h, fun _ _ _ _ _ _ _ _ _ _ _ _ _ _ _ _ _ r h => by simp [spec_plTonnes.l1] at h⟩
 | k + 1 => by
  obtain ⟨ih0, ih1⟩ := spec_plTonnes.mono_l k
  refine ⟨?_, ?_⟩
  ·intro y0 y1 y2 y3 y4 y5 y6 y7 y8 y9 y10 y11
   unfold spec_plTonnes.l0
   repeat' first
   | (with_reducible exact ih0 _ _ _ _ _ _ _ _ _ _ _ _)
   | (with_reducible exact ih1 _ _ _ _ _ _ _ _ _ _ _ _ _ _ _ _ _)
   | (with_reducible exact LeO.refl _)
   | (with_reducible exact LeO.none _)
   | (with_reducible refine LeO.ite ?_ ?_)
   | (with_reducible refine LeO.bind ?_ (fun _ => ?_))
   | exact ih0 _ _ _ _ _ _ _ _ _ _ _ _
   | exact ih1 _ _ _ _ _ _ _ _ _ _ _ _ _ _ _ _ _
   | exact LeO.none _
   | refine LeO.ite ?_ ?_
   | refine LeO.bind ?_ (fun _ => ?_)
  ·intro y0 y1 y2 y3 y4 y5 y6 y7 y8 y9 y10 y11 y12 y13 y14 y15 y16
   unfold spec_plTonnes.l1
   repeat' first
   | (with_reducible exact ih0 _ _ _ _ _ _ _ _ _ _ _ _)
   | (with_reducible exact ih1 _ _ _ _ _ _ _ _ _ _ _ _ _ _ _ _ _)
   | (with_reducible exact LeO.refl _)
   | (with_reducible exact LeO.none _)
   | (with_reducible refine LeO.ite ?_ ?_)
   | (with_reducible refine LeO.bind ?_ (fun _ => ?_))
   | exact ih0 _ _ _ _ _ _ _ _ _ _ _ _
   | exact ih1 _ _ _ _ _ _ _ _ _ _ _ _ _ _ _ _ _
   | exact LeO.none _
   | refine LeO.ite ?_ ?_
   | refine LeO.bind ?_ (fun _ => ?_)
theorem spec_plTonnes.mono : ∀ a0 a1 a2 a3 a4 a5 a6 a7 a8 a9 k, LeO (spec_plTonnes.f k a0 a1 a2 a3 a4 a5 a6 a7 a8 a9) (spec_plTonnes.f (k + 1) a0 a1 a2 a3 a4 a5 a6 a7 a8 a9) := by
 intro a0 a1 a2 a3 a4 a5 a6 a7 a8 a9 k
 obtain ⟨ih0, ih1⟩ := spec_plTonnes.mono_l k
 unfold spec_plTonnes.f
 repeat' first
   | (with_reducible exact ih0 _ _ _ _ _ _ _ _ _ _ _ _)
   | (with_reducible exact ih1 _ _ _ _ _ _ _ _ _ _ _ _ _ _ _ _ _)
   | (with_reducible exact LeO.refl _)
   | (with_reducible exact LeO.none _)
   | (with_reducible refine LeO.ite ?_ ?_)
   | (with_reducible refine LeO.bind ?_ (fun _ => ?_))
   | exact ih0 _ _ _ _ _ _ _ _ _ _ _ _
   | exact ih1 _ _ _ _ _ _ _ _ _ _ _ _ _ _ _ _ _
   | exact LeO.none _
   | refine LeO.ite ?_ ?_
   | refine LeO.bind ?_ (fun _ => ?_)
set_option maxHeartbeats 8000000 in
set_option maxRecDepth 100000 in
theorem spec_plTonnes.calls (k : Nat) (A0_0 : Option Addr) (c0_0 : Nat) (l0_0 : List (List Int)) (A0_1 : Option Addr) (c0_1 : Nat) (l0_1 : List Int) (A0_2 : Option Addr) (c0_2 : Nat) (l0_2 : List Int) (a0_3 : Int) (a0_4 : Int) (a0_5 : Int) (a0_6 : Int) (a0_7 : Int) (a1_0 : Int) (A1_1 : Option Addr) (c1_1 : Nat) (l1_1 : List Int) (r : List (List Int)) (w : World) (hr0_0 : Kd.C (Kd.slice 3 (Kd.int .i64)) w A0_0 l0_0.length l0_0) (hc0_0 : l0_0.length ≤ c0_0) (hr0_1 : Kd.C (Kd.int .i64) w A0_1 l0_1.length l0_1) (hc0_1 : l0_1.length ≤ c0_1) (hr0_2 : Kd.C (Kd.int .i64) w A0_2 l0_2.length l0_2) (hc0_2 : l0_2.length ≤ c0_2) (hr1_1 : Kd.C (Kd.int .i64) w A1_1 l1_1.length l1_1) (hc1_1 : l1_1.length ≤ c1_1) (h : spec_plTonnes.f k l0_0 l0_1 l0_2 a0_3 a0_4 a0_5 a0_6 a0_7 a1_0 l1_1 = some r) :
  Calls Try.prog 94 #[.agg #[.slice A0_0 l0_0.length c0_0, .slice A0_1 l0_1.length c0_1, .slice A0_2 l0_2.length c0_2, .int .i64 a0_3, .int .i64 a0_4, .int .i64 a0_5, .int .i64 a0_6, .int .i64 a0_7], .agg #[.int .i64 a1_0, .slice A1_1 l1_1.length c1_1]] w fun e w' => ∃ v0_ : Value, e = .returned (v0_) ∧ Kd.S (Kd.slice 3 (Kd.int .i64)) 24 w' w.heap.size (fun _ => True) v0_ r ∧ Below w.heap.size w w' := by
 have hu45 := Try.underlying45
 have hu47 := Try.underlying47
 have HR0_0 := m_ hr0_0
 have HC0_0 := m_ hc0_0
 clear hr0_0 hc0_0
 have HR0_1 := m_ hr0_1
 have HC0_1 := m_ hc0_1
 clear hr0_1 hc0_1
 have HR0_2 := m_ hr0_2
 have HC0_2 := m_ hc0_2
 clear hr0_2 hc0_2
 have HR1_1 := m_ hr1_1
 have HC1_1 := m_ hc1_1
 clear hr1_1 hc1_1
 have HB := m_ (Below.refl w.heap.size w)
 have H : (spec_plTonnes.l0 k ([] : List (List Int)) 0 l0_0 l0_1 l0_2 a0_3 a0_4 a0_5 a0_6 a0_7 a1_0 l1_1) = some r := h
 clear h
 have H' := m_ H
 clear H
 go_enter Try.func94, Try.ntmps94
 go_wp2_with (first | ((with_reducible refine gate_dst (N := 2) rfl ?_); refine bxx0 2 45 #[.slice A0_0 l0_0.length c0_0, .slice A0_1 l0_1.length c0_1, .slice A0_2 l0_2.length c0_2, .int .i64 a0_3, .int .i64 a0_4, .int .i64 a0_5, .int .i64 a0_6, .int .i64 a0_7] (be0x0 HB.out) (below_size (be0x0 HB.out)) ?_; clear HB; intro gb164 w3 BK164 HB GE164 hb hg; clear hb hg) | ((with_reducible refine gate_dst (N := 3) rfl ?_); refine bxx0 3 47 #[.int .i64 a1_0, .slice A1_1 l1_1.length c1_1] (be1x0 HB.out GE164.out) (below_size (be1x0 HB.out GE164.out)) ?_; clear HB; intro gb165 w4 BK165 HB GE165 hb hg; have NB164_165 := nbx0 BK164 hg; have NB165_164 := ncx0 BK164 hg; replace BK164 := kbx0 BK164 hb; clear hb hg))
 go_loopg [5, 6] k (fun kq v5 v6 w' => ∃ (x5_1 : List (List Int)) (x6_1 : Int), v6 = .int .i64 x6_1 ∧ Aside0 (spec_plTonnes.l0 kq x5_1 x6_1 l0_0 l0_1 l0_2 a0_3 a0_4 a0_5 a0_6 a0_7 a1_0 l1_1 = some r) ∧ Aside0 (kq ≤ k) ∧ Aside0 (Kd.S (Kd.slice 3 (Kd.int .i64)) 24 w' w.heap.size (fun _ => True) v5 x5_1) ∧ Aside0 (w'.heap[gb164]? = some (.cells #[(.slice A0_0 l0_0.length c0_0), (.slice A0_1 l0_1.length c0_1), (.slice A0_2 l0_2.length c0_2), .int .i64 a0_3, .int .i64 a0_4, .int .i64 a0_5, .int .i64 a0_6, .int .i64 a0_7] 45 (0, 0))) ∧ Aside0 (w'.heap[gb165]? = some (.cells #[.int .i64 a1_0, (.slice A1_1 l1_1.length c1_1)] 47 (0, 0))) ∧ Aside0 (Below w.heap.size w w'))
 case atStart => exact ⟨(([] : List (List Int))), (0), frx0, H', ⟨Nat.le_refl _⟩, ⟨by first | exact Kd.S_nil _ _ _ _ _ | exact Kd.N_nil _ _ _ _ _ | exact Kd.V_nil _ _ _ _ _ | exact Kd.Q_nil _ _ _ _ _ | exact Kd.R_nil _ _ _ _ _⟩, ⟨rBx0 BK164.out⟩, ⟨rBx0 BK165.out⟩, ⟨be2x0 HB.out GE164.out GE165.out⟩⟩
 case round =>
  clear H'
  obtain ⟨x5_1, x6_1, rfl, HA, HK1, HO_5, BK164, BK165, HB⟩ := hrel
  cases gk with
  | zero => exact absurd HA.out (by simp [spec_plTonnes.l0])
  | succ k1 =>
   have H := HA.out
   clear HA
   simp only [spec_plTonnes.l0] at H
   by_cases c5 : x6_1 < a0_5
   ·rw [if_pos c5] at H
    have c5b0 := decide_eq_true c5
    clear c5
    have H' := m_ H
    clear H
    have hnb6 := NB164_165.out
    have hnc6 := NB165_164.out
    obtain ⟨hcz7_0, hcz7_1, hcz7_2, hcz7_3, hcz7_4, hcz7_5, hcz7_6, hcz7_7, hfz7_0, hfz7_1, hfz7_2, hfz7_3, hfz7_4, hfz7_5, hfz7_6, hfz7_7⟩ := cf8x0 BK164.out
    obtain ⟨hcz8_0, hcz8_1, hfz8_0, hfz8_1⟩ := cf2x0 BK165.out
    go_wp2
    go_loopg [7, 8, 20] k1 (fun kq v7 v8 v20 w' => ∃ (x7_2 : Int) (x8_2 : Int) (x20_2 : Int), v7 = .int .i64 x7_2 ∧ v8 = .int .i64 x8_2 ∧ v20 = .int .i64 x20_2 ∧ Aside0 (spec_plTonnes.l1 kq x5_1 x6_1 x7_2 x8_2 l1_1 (l1_1.length : Int) x20_2 l0_0 l0_1 l0_2 a0_3 a0_4 a0_5 a0_6 a0_7 a1_0 l1_1 = some r) ∧ Aside0 (kq ≤ k1) ∧ Aside0 (Kd.S (Kd.slice 3 (Kd.int .i64)) 24 w' w.heap.size (fun _ => True) u5 x5_1) ∧ Aside0 (w'.heap[gb164]? = some (.cells #[(.slice A0_0 l0_0.length c0_0), (.slice A0_1 l0_1.length c0_1), (.slice A0_2 l0_2.length c0_2), .int .i64 a0_3, .int .i64 a0_4, .int .i64 a0_5, .int .i64 a0_6, .int .i64 a0_7] 45 (0, 0))) ∧ Aside0 (w'.heap[gb165]? = some (.cells #[.int .i64 a1_0, (.slice A1_1 l1_1.length c1_1)] 47 (0, 0))) ∧ Aside0 (Below w.heap.size w w'))
    case atStart => exact ⟨(0), (0), (0), frx0, frx0, frx0, H', ⟨Nat.le_refl _⟩, ⟨rSx0 HO_5.out⟩, ⟨rBx0 BK164.out⟩, ⟨rBx0 BK165.out⟩, ⟨be2x0 HB.out GE164.out GE165.out⟩⟩
    case round =>
     clear H'
     try clear c5; try clear c5b0; try clear hcz7_0 hcz7_1 hcz7_2 hcz7_3 hcz7_4 hcz7_5 hcz7_6 hcz7_7; try clear hcz8_0 hcz8_1; try clear hfz7_0 hfz7_1 hfz7_2 hfz7_3 hfz7_4 hfz7_5 hfz7_6 hfz7_7; try clear hfz8_0 hfz8_1
     obtain ⟨x7_2, x8_2, x20_2, rfl, rfl, rfl, HA, HK2, HO_5, BK164, BK165, HB⟩ := hrel
     cases gk with
     | zero => exact absurd HA.out (by simp [spec_plTonnes.l1])
     | succ k2 =>
      have H := HA.out
      clear HA
      simp only [spec_plTonnes.l1] at H
      by_cases c9 : x20_2 < (l1_1.length : Int)
      ·rw [if_pos c9] at H
       have c9b0 := decide_eq_true c9
       clear c9
       by_cases c10 : 0 ≤ x20_2
       ·rw [if_pos c10] at H
        have c10b0 := decide_eq_true c10
        clear c10
        by_cases c11 : x20_2 < (l1_1.length : Int)
        ·rw [if_pos c11] at H
         have c11b0 := decide_eq_true c11
         clear c11
         by_cases c12 : (rd l1_1 x20_2) = x6_1
         ·rw [if_pos c12] at H
          have c12b0 : ((rd l1_1 x20_2) == x6_1) = true := beq_iff_eq.mpr c12
          have c12b1 : ((rd l1_1 x20_2) != x6_1) = false := bne_eq_false_iff_eq.mpr c12
          clear c12
          by_cases c13 : x20_2 < (l0_1.length : Int)
          ·rw [if_pos c13] at H
           have c13b0 := decide_eq_true c13
           clear c13
           by_cases c14 : x20_2 < (l0_2.length : Int)
           ·rw [if_pos c14] at H
            have c14b0 := decide_eq_true c14
            clear c14
            by_cases c15 : (rd l0_2 x20_2) > 0
            ·rw [if_pos c15] at H
             have c15b0 : decide (0 < (rd l0_2 x20_2)) = true := decide_eq_true c15
             clear c15
             have H' := m_ H
             clear H
             obtain ⟨ad172, rfl, hx172_0, p172, q172⟩ := abx0 HB.out HR1_1.out x20_2
             have hnb16 := NB164_165.out
             have hnc16 := NB165_164.out
             obtain ⟨hcz17_0, hcz17_1, hcz17_2, hcz17_3, hcz17_4, hcz17_5, hcz17_6, hcz17_7, hfz17_0, hfz17_1, hfz17_2, hfz17_3, hfz17_4, hfz17_5, hfz17_6, hfz17_7⟩ := cf8x0 BK164.out
             obtain ⟨ad173, rfl, hx173_0, p173, q173⟩ := abx0 HB.out HR0_1.out x20_2
             obtain ⟨ad174, rfl, hx174_0, p174, q174⟩ := abx0 HB.out HR0_2.out x20_2
             have p175 : 0 ≤ (x20_2 : Int) := dax0
             have q175 : x20_2 < (l0_1.length : Int) := dax0
             obtain ⟨ad175, e175, hx175_0⟩ := Kd.at_int HR0_1.out x20_2 p175 q175
             obtain rfl : ad173 = ad175 := (by injection e175)
             replace hx175_0 := (HB.out.cell (World.block_lt_of_cell? w _ hx175_0)).trans hx175_0
             replace p175 := eq_true p175
             replace q175 := eq_true q175
             go_wp2
             go_roundg k2
             case measure => have := HK1.out; have := HK2.out; omega
             case rel => exact ⟨(wrap64 (x7_2 + (rd l0_1 x20_2))), (wrap64 (x8_2 + (rd l0_1 x20_2))), (wrap64 (x20_2 + 1)), frx0, frx0, frx0, H', ⟨by have := HK1.out; have := HK2.out; omega⟩, ⟨rSx0 HO_5.out⟩, ⟨rBx0 BK164.out⟩, ⟨rBx0 BK165.out⟩, ⟨be2x0 HB.out GE164.out GE165.out⟩⟩
            ·rw [if_neg c15] at H
             have c15b0 : decide (0 < (rd l0_2 x20_2)) = false := decide_eq_false c15
             clear c15
             have H' := m_ H
             clear H
             obtain ⟨ad172, rfl, hx172_0, p172, q172⟩ := abx0 HB.out HR1_1.out x20_2
             have hnb18 := NB164_165.out
             have hnc18 := NB165_164.out
             obtain ⟨hcz19_0, hcz19_1, hcz19_2, hcz19_3, hcz19_4, hcz19_5, hcz19_6, hcz19_7, hfz19_0, hfz19_1, hfz19_2, hfz19_3, hfz19_4, hfz19_5, hfz19_6, hfz19_7⟩ := cf8x0 BK164.out
             obtain ⟨ad173, rfl, hx173_0, p173, q173⟩ := abx0 HB.out HR0_1.out x20_2
             obtain ⟨ad174, rfl, hx174_0, p174, q174⟩ := abx0 HB.out HR0_2.out x20_2
             go_wp2
             go_roundg k2
             case measure => have := HK1.out; have := HK2.out; omega
             case rel => exact ⟨(wrap64 (x7_2 + (rd l0_1 x20_2))), (x8_2), (wrap64 (x20_2 + 1)), frx0, frx0, frx0, H', ⟨by have := HK1.out; have := HK2.out; omega⟩, ⟨rSx0 HO_5.out⟩, ⟨rBx0 BK164.out⟩, ⟨rBx0 BK165.out⟩, ⟨be2x0 HB.out GE164.out GE165.out⟩⟩
           ·rw [if_neg c14] at H
            exact absurd H (by simp)
          ·rw [if_neg c13] at H
           exact absurd H (by simp)
         ·rw [if_neg c12] at H
          have c12b0 : ((rd l1_1 x20_2) == x6_1) = false := beq_eq_false_iff_ne.mpr c12
          have c12b1 : ((rd l1_1 x20_2) != x6_1) = true := bne_iff_ne.mpr c12
          have H' := m_ H
          clear H
          obtain ⟨ad172, rfl, hx172_0, p172, q172⟩ := abx0 HB.out HR1_1.out x20_2
          go_wp2
          go_roundg k2
          case measure => have := HK1.out; have := HK2.out; omega
          case rel => exact ⟨(x7_2), (x8_2), (wrap64 (x20_2 + 1)), frx0, frx0, frx0, H', ⟨by have := HK1.out; have := HK2.out; omega⟩, ⟨rSx0 HO_5.out⟩, ⟨rBx0 BK164.out⟩, ⟨rBx0 BK165.out⟩, ⟨be2x0 HB.out GE164.out GE165.out⟩⟩
        ·rw [if_neg c11] at H
         exact absurd H (by simp)
       ·rw [if_neg c10] at H
        exact absurd H (by simp)
      ·rw [if_neg c9] at H
       have c9b0 := decide_eq_false c9
       clear c9
       obtain ⟨y166, hy166⟩ : ∃ y_ : List Int, y_ = (([x7_2, x8_2] : List Int)) := ⟨_, rfl⟩
       replace H : (if x5_1.length < 5864062014805 then (spec_plTonnes.l0 k2 (x5_1 ++ [y166]) (wrap64 (x6_1 + 1)) l0_0 l0_1 l0_2 a0_3 a0_4 a0_5 a0_6 a0_7 a1_0 l1_1) else (none)) = some r := by first | (rw [hy166]; with_reducible exact H) | (have H2_ := (Option.bind_some _ _).symm.trans H; rw [hy166]; with_reducible exact H2_) | (have H2_ := (Option.bind_some _ _).symm.trans H; with_reducible exact H2_) | with_reducible exact H | (rw [hy166]; exact H) | exact H
       have Ny166 := m_ hy166
       clear hy166
       by_cases c20 : x5_1.length < 5864062014805
       ·rw [if_pos c20] at H
        have LMc20 := m_ c20
        clear c20
        obtain ⟨y169, hy169⟩ : ∃ y_ : List (List Int), y_ = (x5_1 ++ [y166]) := ⟨_, rfl⟩
        replace H : (spec_plTonnes.l0 k2 y169 (wrap64 (x6_1 + 1)) l0_0 l0_1 l0_2 a0_3 a0_4 a0_5 a0_6 a0_7 a1_0 l1_1) = some r := by first | (rw [hy169]; with_reducible exact H) | (have H2_ := (Option.bind_some _ _).symm.trans H; rw [hy169]; with_reducible exact H2_) | (have H2_ := (Option.bind_some _ _).symm.trans H; with_reducible exact H2_) | with_reducible exact H | (rw [hy169]; exact H) | exact H
        have Ny169 := m_ hy169
        clear hy169
        have H' := m_ H
        clear H
        go_wp2_with (first | ((with_reducible refine gate_dst (N := 52) rfl ?_); refine Kd.R_lit (Kd.int .i64) _ 3 ?hg (N := 52) ?hd (xs := ([x7_2, x8_2] : List Int)) (inner := [.int .i64 x7_2, .int .i64 x8_2]) (ok := fun _ => True) (okp := fun _ => True) ?hr ?hp (fun _ hk => hk) trivial (Below.refl _ _) (Nat.le_refl _) (by simp) ?_; (case hd => rfl); (case hg => rfl); (case hr => first | (go_simp; done) | (go_simp; rfl)); (case hp => exact (Reps.one (show Kd.M (Kd.int .i64) _ _ _ x7_2 [.int .i64 x7_2] from rfl) (Reps.one (show Kd.M (Kd.int .i64) _ _ _ x8_2 [.int .i64 x8_2] from rfl) (Reps.none _ _)))); intro v167 w21 ho22 hb hg_ hnew_; clear hg_ hnew_; (first | rw [← Ny166.out] at ho22 | (simp only [Int.reduceToNat] at ho22; rw [← Ny166.out] at ho22)); replace HO_5 := m_ (Kd.S_elder' (rSx0 HO_5.out) (Kd.R_base ho22) hb); have HO168 := m_ (Kd.R_lower ho22 (below_size (be2x0 HB.out GE164.out GE165.out))); replace BK164 := kbx0 BK164 hb; replace BK165 := kbx0 BK165 hb; replace HB := m_ (below_step (be2x0 HB.out GE164.out GE165.out) hb); clear hb ho22; obtain ⟨Ao24, co24, eo24⟩ := Kd.R_slice HO168.out; subst eo24) | ((with_reducible refine gate_builtin (b := .append) (xs := #[.tmp 49, .tmp 53]) rfl ?_); at_builtin; refine Kd.S_append (Kd.slice 3 (Kd.int .i64)) (w0 := w) w.heap.size rfl (.tmp 49) (.tmp 53) 27 24 (.slice none 0 0) 24 rfl Try.underlying27 info24 rfl (by decide) (by omega) u5 x5_1 y166 [.slice Ao24 y166.length co24] (fun _ => True) (fun k_ => some k_ = (.slice Ao24 y166.length co24 : Value).ownBlock) rfl rfl ?aP (fun k_ hk_ => ((Kd.R_mono (ok' := fun k_ => ((fun _ => True)) k_ ∧ some k_ ≠ (u5 : Value).ownBlock) (Kd.R_apart' (HO168.out) (Kd.S_typed HO_5.out) (by decide)) (fun k_ hk => ⟨trivial, hk.2⟩))).1 k_ hk_.symm) ?aF ?aO ?aB ?aS ?aL ?_; (case aP => exact Kd.M_row (Kd.R_mono (Kd.R_tight rfl (Kd.R_mono (ok' := fun k_ => ((fun _ => True)) k_ ∧ some k_ ≠ (u5 : Value).ownBlock) (Kd.R_apart' (HO168.out) (Kd.S_typed HO_5.out) (by decide)) (fun k_ hk => ⟨trivial, hk.2⟩))) (fun _ h_ => h_))); (case aB => exact (be2x0 HB.out GE164.out GE165.out)); (case aF => exact (fun _ _ => trivial)); (case aO => exact (by (with_reducible repeat (first | apply Kd.S_alloc | apply Kd.S_drewN | apply Kd.S_drew)); exact Kd.S_mono HO_5.out (fun k_ hk => ⟨trivial, fun e_ => hk.2 e_⟩))); (case aS => exact (below_size (be2x0 HB.out GE164.out GE165.out))); (case aL => have := LMc20.out; omega); intro v170 w23 ho hb hg hat; rw [← Ny169.out] at ho; replace BK164 := m_ (blk_grown (g := gb164) (o := .cells #[.slice A0_0 l0_0.length c0_0, .slice A0_1 l0_1.length c0_1, .slice A0_2 l0_2.length c0_2, .int .i64 a0_3, .int .i64 a0_4, .int .i64 a0_5, .int .i64 a0_6, .int .i64 a0_7] 45 (0, 0)) (rBx0 BK164.out) hg (Kd.S_ne HO_5.out BK164.out (by decide))); replace BK165 := m_ (blk_grown (g := gb165) (o := .cells #[.int .i64 a1_0, .slice A1_1 l1_1.length c1_1] 47 (0, 0)) (rBx0 BK165.out) hg (Kd.S_ne HO_5.out BK165.out (by decide))); replace HB := m_ (hb); have HO171 := m_ (ho); clear HO_5 HO168; clear ho hb hg hat))
        go_roundg k2
        case measure => have := HK1.out; have := HK2.out; omega
        case rel => exact ⟨(y169), (wrap64 (x6_1 + 1)), frx0, H', ⟨by have := HK1.out; have := HK2.out; omega⟩, ⟨rSx0 HO171.out⟩, ⟨rBx0 BK164.out⟩, ⟨rBx0 BK165.out⟩, ⟨be2x0 HB.out GE164.out GE165.out⟩⟩
       ·rw [if_neg c20] at H
        exact absurd H (by simp)
   ·rw [if_neg c5] at H
    have c5b0 := decide_eq_false c5
    clear c5
    obtain rfl := Option.some.inj H
    have hnb25 := NB164_165.out
    have hnc25 := NB165_164.out
    obtain ⟨hcz26_0, hcz26_1, hcz26_2, hcz26_3, hcz26_4, hcz26_5, hcz26_6, hcz26_7, hfz26_0, hfz26_1, hfz26_2, hfz26_3, hfz26_4, hfz26_5, hfz26_6, hfz26_7⟩ := cf8x0 BK164.out
    go_wp2
    go_ret
    exact ⟨_, by first | rfl | (simp [errW_none, errW_some] <;> rfl) | (simp [*, errW_none, errW_some] <;> rfl), rSx0 HO_5.out, be2x0 HB.out GE164.out GE165.out⟩

/-! ### spec_plOver: function 86 -/
def spec_plOver.l0 : Nat → List Int → List (List Int) → Int → Int → List (List Int) → List Int → List Int → Int → Int → Int → Int → Int → Option (List Int)
 | 0, _, _, _, _, _, _, _, _, _, _, _, _ => none
 | k + 1, x5, x10, x11, x12, x177000, x177001, x177002, x177003, x177004, x177005, x177006, x177007 => if x12 < x11 then (if 0 ≤ x12 then (if x12 < (x10.length : Int) then (if 0 < ((rd_L1 x10 x12).length : Int) then (if (rd (rd_L1 x10 x12) 0) > x177003 then (if x5.length < 17592186044416 then (spec_plOver.l0 k (x5 ++ [x12]) x10 x11 (wrap64 (x12 + 1)) x177000 x177001 x177002 x177003 x177004 x177005 x177006 x177007) else (none)) else (if 1 < ((rd_L1 x10 x12).length : Int) then (if (rd (rd_L1 x10 x12) 1) > x177004 then (if x5.length < 17592186044416 then (spec_plOver.l0 k (x5 ++ [x12]) x10 x11 (wrap64 (x12 + 1)) x177000 x177001 x177002 x177003 x177004 x177005 x177006 x177007) else (none)) else (spec_plOver.l0 k x5 x10 x11 (wrap64 (x12 + 1)) x177000 x177001 x177002 x177003 x177004 x177005 x177006 x177007)) else (none))) else (none)) else (none)) else (none)) else (some x5)
def spec_plOver.f (k : Nat) (l0_0 : List (List Int)) (l0_1 : List Int) (l0_2 : List Int) (a0_3 : Int) (a0_4 : Int) (a0_5 : Int) (a0_6 : Int) (a0_7 : Int) (a1_0 : Int) (l1_1 : List Int) : Option (List Int) := (spec_plTonnes.f k l0_0 l0_1 l0_2 a0_3 a0_4 a0_5 a0_6 a0_7 a1_0 l1_1).bind fun t178 => (spec_plOver.l0 k ([] : List Int) t178 (t178.length : Int) 0 l0_0 l0_1 l0_2 a0_3 a0_4 a0_5 a0_6 a0_7)
theorem spec_plOver.mono_l : ∀ k, (∀ y0 y1 y2 y3 y4 y5 y6 y7 y8 y9 y10 y11, LeO (spec_plOver.l0 k y0 y1 y2 y3 y4 y5 y6 y7 y8 y9 y10 y11) (spec_plOver.l0 (k + 1) y0 y1 y2 y3 y4 y5 y6 y7 y8 y9 y10 y11))
 | 0 => fun _ _ _ _ _ _ _ _ _ _ _ _ r h => by simp [spec_plOver.l0] at h
 | k + 1 => by
  have ih0 := spec_plOver.mono_l k
  ·intro y0 y1 y2 y3 y4 y5 y6 y7 y8 y9 y10 y11
   unfold spec_plOver.l0
   repeat' first
   | (with_reducible exact ih0 _ _ _ _ _ _ _ _ _ _ _ _)
   | (with_reducible exact spec_plTonnes.mono _ _ _ _ _ _ _ _ _ _ _)
   | (with_reducible exact LeO.refl _)
   | (with_reducible exact LeO.none _)
   | (with_reducible refine LeO.ite ?_ ?_)
   | (with_reducible refine LeO.bind ?_ (fun _ => ?_))
   | exact ih0 _ _ _ _ _ _ _ _ _ _ _ _
   | exact spec_plTonnes.mono _ _ _ _ _ _ _ _ _ _ _
   | exact LeO.none _
   | refine LeO.ite ?_ ?_
   | refine LeO.bind ?_ (fun _ => ?_)
theorem spec_plOver.mono : ∀ a0 a1 a2 a3 a4 a5 a6 a7 a8 a9 k, LeO (spec_plOver.f k a0 a1 a2 a3 a4 a5 a6 a7 a8 a9) (spec_plOver.f (k + 1) a0 a1 a2 a3 a4 a5 a6 a7 a8 a9) := by
 intro a0 a1 a2 a3 a4 a5 a6 a7 a8 a9 k
 have ih0 := spec_plOver.mono_l k
 unfold spec_plOver.f
 repeat' first
   | (with_reducible exact ih0 _ _ _ _ _ _ _ _ _ _ _ _)
   | (with_reducible exact spec_plTonnes.mono _ _ _ _ _ _ _ _ _ _ _)
   | (with_reducible exact LeO.refl _)
   | (with_reducible exact LeO.none _)
   | (with_reducible refine LeO.ite ?_ ?_)
   | (with_reducible refine LeO.bind ?_ (fun _ => ?_))
   | exact ih0 _ _ _ _ _ _ _ _ _ _ _ _
   | exact spec_plTonnes.mono _ _ _ _ _ _ _ _ _ _ _
   | exact LeO.none _
   | refine LeO.ite ?_ ?_
   | refine LeO.bind ?_ (fun _ => ?_)
set_option maxHeartbeats 8000000 in
set_option maxRecDepth 100000 in
theorem spec_plOver.calls (k : Nat) (A0_0 : Option Addr) (c0_0 : Nat) (l0_0 : List (List Int)) (A0_1 : Option Addr) (c0_1 : Nat) (l0_1 : List Int) (A0_2 : Option Addr) (c0_2 : Nat) (l0_2 : List Int) (a0_3 : Int) (a0_4 : Int) (a0_5 : Int) (a0_6 : Int) (a0_7 : Int) (a1_0 : Int) (A1_1 : Option Addr) (c1_1 : Nat) (l1_1 : List Int) (r : List Int) (w : World) (hr0_0 : Kd.C (Kd.slice 3 (Kd.int .i64)) w A0_0 l0_0.length l0_0) (hc0_0 : l0_0.length ≤ c0_0) (hr0_1 : Kd.C (Kd.int .i64) w A0_1 l0_1.length l0_1) (hc0_1 : l0_1.length ≤ c0_1) (hr0_2 : Kd.C (Kd.int .i64) w A0_2 l0_2.length l0_2) (hc0_2 : l0_2.length ≤ c0_2) (hr1_1 : Kd.C (Kd.int .i64) w A1_1 l1_1.length l1_1) (hc1_1 : l1_1.length ≤ c1_1) (h : spec_plOver.f k l0_0 l0_1 l0_2 a0_3 a0_4 a0_5 a0_6 a0_7 a1_0 l1_1 = some r) :
  Calls Try.prog 86 #[.agg #[.slice A0_0 l0_0.length c0_0, .slice A0_1 l0_1.length c0_1, .slice A0_2 l0_2.length c0_2, .int .i64 a0_3, .int .i64 a0_4, .int .i64 a0_5, .int .i64 a0_6, .int .i64 a0_7], .agg #[.int .i64 a1_0, .slice A1_1 l1_1.length c1_1]] w fun e w' => ∃ v0_ : Value, e = .returned (v0_) ∧ Kd.R (Kd.int .i64) 3 w' w.heap.size (fun _ => True) v0_ r ∧ Below w.heap.size w w' := by
 have hu45 := Try.underlying45
 have hu47 := Try.underlying47
 have HR0_0 := m_ hr0_0
 have HC0_0 := m_ hc0_0
 clear hr0_0 hc0_0
 have HR0_1 := m_ hr0_1
 have HC0_1 := m_ hc0_1
 clear hr0_1 hc0_1
 have HR0_2 := m_ hr0_2
 have HC0_2 := m_ hc0_2
 clear hr0_2 hc0_2
 have HR1_1 := m_ hr1_1
 have HC1_1 := m_ hc1_1
 clear hr1_1 hc1_1
 have HB := m_ (Below.refl w.heap.size w)
 have H : ((spec_plTonnes.f k l0_0 l0_1 l0_2 a0_3 a0_4 a0_5 a0_6 a0_7 a1_0 l1_1).bind fun t178 => (spec_plOver.l0 k ([] : List Int) t178 (t178.length : Int) 0 l0_0 l0_1 l0_2 a0_3 a0_4 a0_5 a0_6 a0_7)) = some r := h
 clear h
 replace H := Option.bind_eq_some_iff.mp H
 obtain ⟨t178, A30, H⟩ := H
 have A3 := m_ A30
 clear A30
 have H' := m_ H
 clear H
 go_enter Try.func86, Try.ntmps86
 go_wp2_with (first | ((with_reducible refine gate_dst (N := 2) rfl ?_); refine bxx0 2 45 #[.slice A0_0 l0_0.length c0_0, .slice A0_1 l0_1.length c0_1, .slice A0_2 l0_2.length c0_2, .int .i64 a0_3, .int .i64 a0_4, .int .i64 a0_5, .int .i64 a0_6, .int .i64 a0_7] (be0x0 HB.out) (below_size (be0x0 HB.out)) ?_; clear HB; intro gb176 w4 BK176 HB GE176 hb hg; clear hb hg) | ((with_reducible refine gate_dst (N := 3) rfl ?_); refine bxx0 3 47 #[.int .i64 a1_0, .slice A1_1 l1_1.length c1_1] (be1x0 HB.out GE176.out) (below_size (be1x0 HB.out GE176.out)) ?_; clear HB; intro gb177 w5 BK177 HB GE177 hb hg; have NB176_177 := nbx0 BK176 hg; have NB177_176 := ncx0 BK176 hg; replace BK176 := kbx0 BK176 hb; clear hb hg; have hnb6 := NB176_177.out; have hnc6 := NB177_176.out; obtain ⟨hcz7_0, hcz7_1, hcz7_2, hcz7_3, hcz7_4, hcz7_5, hcz7_6, hcz7_7, hfz7_0, hfz7_1, hfz7_2, hfz7_3, hfz7_4, hfz7_5, hfz7_6, hfz7_7⟩ := cf8x0 BK176.out; obtain ⟨hcz8_0, hcz8_1, hfz8_0, hfz8_1⟩ := cf2x0 BK177.out) | (go_at_call 94; (with_reducible refine (spec_plTonnes.calls k _ _ l0_0 _ _ l0_1 _ _ l0_2 a0_3 a0_4 a0_5 a0_6 a0_7 a1_0 _ _ l1_1 t178 _ ?side1 ?side2 ?side3 ?side4 ?side5 ?side6 ?side7 ?side8 A3.out).mono ?_); (case side1 => exact rCx0 (Kd.C_below HR0_0.out HB.out)); (case side2 => exact HC0_0.out); (case side3 => exact rCx0 (Kd.C_below HR0_1.out HB.out)); (case side4 => exact HC0_1.out); (case side5 => exact rCx0 (Kd.C_below HR0_2.out HB.out)); (case side6 => exact HC0_2.out); (case side7 => exact rCx0 (Kd.C_below HR1_1.out HB.out)); (case side8 => exact HC1_1.out); rintro e w9 ⟨v179, rfl, ho0, hb⟩; have HO180 := m_ (Kd.S_lower ho0 (below_size (be2x0 HB.out GE176.out GE177.out))); replace BK176 := kbx0 BK176 hb; replace BK177 := kbx0 BK177 hb; replace HB := m_ (below_step (be2x0 HB.out GE176.out GE177.out) hb); (try clear hb); (try clear hb2); (try clear hk); (try clear hi); (try clear ho0); obtain ⟨Ao10, co10, eo10⟩ := Kd.S_slice HO180.out; subst eo10))
 repeat (go_quiet (first | ((with_reducible refine gate_dst (N := 2) rfl ?_); refine bxx0 2 45 #[.slice A0_0 l0_0.length c0_0, .slice A0_1 l0_1.length c0_1, .slice A0_2 l0_2.length c0_2, .int .i64 a0_3, .int .i64 a0_4, .int .i64 a0_5, .int .i64 a0_6, .int .i64 a0_7] (be0x0 HB.out) (below_size (be0x0 HB.out)) ?_; clear HB; intro gb176 w4 BK176 HB GE176 hb hg; clear hb hg) | ((with_reducible refine gate_dst (N := 3) rfl ?_); refine bxx0 3 47 #[.int .i64 a1_0, .slice A1_1 l1_1.length c1_1] (be1x0 HB.out GE176.out) (below_size (be1x0 HB.out GE176.out)) ?_; clear HB; intro gb177 w5 BK177 HB GE177 hb hg; have NB176_177 := nbx0 BK176 hg; have NB177_176 := ncx0 BK176 hg; replace BK176 := kbx0 BK176 hb; clear hb hg; have hnb6 := NB176_177.out; have hnc6 := NB177_176.out; obtain ⟨hcz7_0, hcz7_1, hcz7_2, hcz7_3, hcz7_4, hcz7_5, hcz7_6, hcz7_7, hfz7_0, hfz7_1, hfz7_2, hfz7_3, hfz7_4, hfz7_5, hfz7_6, hfz7_7⟩ := cf8x0 BK176.out; obtain ⟨hcz8_0, hcz8_1, hfz8_0, hfz8_1⟩ := cf2x0 BK177.out) | (go_at_call 94; (with_reducible refine (spec_plTonnes.calls k _ _ l0_0 _ _ l0_1 _ _ l0_2 a0_3 a0_4 a0_5 a0_6 a0_7 a1_0 _ _ l1_1 t178 _ ?side1 ?side2 ?side3 ?side4 ?side5 ?side6 ?side7 ?side8 A3.out).mono ?_); (case side1 => exact rCx0 (Kd.C_below HR0_0.out HB.out)); (case side2 => exact HC0_0.out); (case side3 => exact rCx0 (Kd.C_below HR0_1.out HB.out)); (case side4 => exact HC0_1.out); (case side5 => exact rCx0 (Kd.C_below HR0_2.out HB.out)); (case side6 => exact HC0_2.out); (case side7 => exact rCx0 (Kd.C_below HR1_1.out HB.out)); (case side8 => exact HC1_1.out); rintro e w9 ⟨v179, rfl, ho0, hb⟩; have HO180 := m_ (Kd.S_lower ho0 (below_size (be2x0 HB.out GE176.out GE177.out))); replace BK176 := kbx0 BK176 hb; replace BK177 := kbx0 BK177 hb; replace HB := m_ (below_step (be2x0 HB.out GE176.out GE177.out) hb); (try clear hb); (try clear hb2); (try clear hk); (try clear hi); (try clear ho0); obtain ⟨Ao10, co10, eo10⟩ := Kd.S_slice HO180.out; subst eo10)); try go_wp2_with (first | ((with_reducible refine gate_dst (N := 2) rfl ?_); refine bxx0 2 45 #[.slice A0_0 l0_0.length c0_0, .slice A0_1 l0_1.length c0_1, .slice A0_2 l0_2.length c0_2, .int .i64 a0_3, .int .i64 a0_4, .int .i64 a0_5, .int .i64 a0_6, .int .i64 a0_7] (be0x0 HB.out) (below_size (be0x0 HB.out)) ?_; clear HB; intro gb176 w4 BK176 HB GE176 hb hg; clear hb hg) | ((with_reducible refine gate_dst (N := 3) rfl ?_); refine bxx0 3 47 #[.int .i64 a1_0, .slice A1_1 l1_1.length c1_1] (be1x0 HB.out GE176.out) (below_size (be1x0 HB.out GE176.out)) ?_; clear HB; intro gb177 w5 BK177 HB GE177 hb hg; have NB176_177 := nbx0 BK176 hg; have NB177_176 := ncx0 BK176 hg; replace BK176 := kbx0 BK176 hb; clear hb hg; have hnb6 := NB176_177.out; have hnc6 := NB177_176.out; obtain ⟨hcz7_0, hcz7_1, hcz7_2, hcz7_3, hcz7_4, hcz7_5, hcz7_6, hcz7_7, hfz7_0, hfz7_1, hfz7_2, hfz7_3, hfz7_4, hfz7_5, hfz7_6, hfz7_7⟩ := cf8x0 BK176.out; obtain ⟨hcz8_0, hcz8_1, hfz8_0, hfz8_1⟩ := cf2x0 BK177.out) | (go_at_call 94; (with_reducible refine (spec_plTonnes.calls k _ _ l0_0 _ _ l0_1 _ _ l0_2 a0_3 a0_4 a0_5 a0_6 a0_7 a1_0 _ _ l1_1 t178 _ ?side1 ?side2 ?side3 ?side4 ?side5 ?side6 ?side7 ?side8 A3.out).mono ?_); (case side1 => exact rCx0 (Kd.C_below HR0_0.out HB.out)); (case side2 => exact HC0_0.out); (case side3 => exact rCx0 (Kd.C_below HR0_1.out HB.out)); (case side4 => exact HC0_1.out); (case side5 => exact rCx0 (Kd.C_below HR0_2.out HB.out)); (case side6 => exact HC0_2.out); (case side7 => exact rCx0 (Kd.C_below HR1_1.out HB.out)); (case side8 => exact HC1_1.out); rintro e w9 ⟨v179, rfl, ho0, hb⟩; have HO180 := m_ (Kd.S_lower ho0 (below_size (be2x0 HB.out GE176.out GE177.out))); replace BK176 := kbx0 BK176 hb; replace BK177 := kbx0 BK177 hb; replace HB := m_ (below_step (be2x0 HB.out GE176.out GE177.out) hb); (try clear hb); (try clear hb2); (try clear hk); (try clear hi); (try clear ho0); obtain ⟨Ao10, co10, eo10⟩ := Kd.S_slice HO180.out; subst eo10)))
 go_loopg [5, 12] k (fun kq v5 v12 w' => ∃ (x5_1 : List Int) (x12_1 : Int), v12 = .int .i64 x12_1 ∧ Aside0 (spec_plOver.l0 kq x5_1 t178 (t178.length : Int) x12_1 l0_0 l0_1 l0_2 a0_3 a0_4 a0_5 a0_6 a0_7 = some r) ∧ Aside0 (kq ≤ k) ∧ Aside0 (Kd.R (Kd.int .i64) 3 w' w.heap.size (fun _ => True) v5 x5_1) ∧ Aside0 (Kd.S (Kd.slice 3 (Kd.int .i64)) 24 w' w.heap.size (fun k_ => some k_ ≠ (v5 : Value).ownBlock) (.slice Ao10 t178.length co10) t178) ∧ Aside0 (w'.heap[gb176]? = some (.cells #[(.slice A0_0 l0_0.length c0_0), (.slice A0_1 l0_1.length c0_1), (.slice A0_2 l0_2.length c0_2), .int .i64 a0_3, .int .i64 a0_4, .int .i64 a0_5, .int .i64 a0_6, .int .i64 a0_7] 45 (0, 0))) ∧ Aside0 (w'.heap[gb177]? = some (.cells #[.int .i64 a1_0, (.slice A1_1 l1_1.length c1_1)] 47 (0, 0))) ∧ Aside0 (Below w.heap.size w w'))
 case atStart => exact ⟨(([] : List Int)), (0), frx0, H', ⟨Nat.le_refl _⟩, ⟨by first | exact Kd.R_nil _ _ _ _ _ | exact Kd.N_nil _ _ _ _ _ | exact Kd.V_nil _ _ _ _ _ | exact Kd.Q_nil _ _ _ _ _ | exact Kd.S_nil _ _ _ _ _⟩, ⟨by (with_reducible repeat (first | apply Kd.S_alloc | apply Kd.S_drewN | apply Kd.S_drew)); exact Kd.S_mono HO180.out (fun _ hk => (by simp [Value.ownBlock]))⟩, ⟨rBx0 BK176.out⟩, ⟨rBx0 BK177.out⟩, ⟨be2x0 HB.out GE176.out GE177.out⟩⟩
 case round =>
  clear H'
  try clear hcz7_0 hcz7_1 hcz7_2 hcz7_3 hcz7_4 hcz7_5 hcz7_6 hcz7_7; try clear hcz8_0 hcz8_1; try clear hfz7_0 hfz7_1 hfz7_2 hfz7_3 hfz7_4 hfz7_5 hfz7_6 hfz7_7; try clear hfz8_0 hfz8_1
  obtain ⟨x5_1, x12_1, rfl, HA, HK1, HO_5, HO_10, BK176, BK177, HB⟩ := hrel
  cases gk with
  | zero => exact absurd HA.out (by simp [spec_plOver.l0])
  | succ k1 =>
   have H := HA.out
   clear HA
   simp only [spec_plOver.l0] at H
   by_cases c11 : x12_1 < (t178.length : Int)
   ·rw [if_pos c11] at H
    have c11b0 := decide_eq_true c11
    clear c11
    by_cases c12 : 0 ≤ x12_1
    ·rw [if_pos c12] at H
     have c12b0 := decide_eq_true c12
     clear c12
     by_cases c13 : x12_1 < (t178.length : Int)
     ·rw [if_pos c13] at H
      have c13b0 := decide_eq_true c13
      clear c13
      by_cases c14 : 0 < ((rd_L1 t178 x12_1).length : Int)
      ·rw [if_pos c14] at H
       have c14b0 := decide_eq_true c14
       have c14b1 : decide (0 < (rd_L1 t178 x12_1).length) = true := decide_eq_true (by omega)
       clear c14
       by_cases c15 : (rd (rd_L1 t178 x12_1) 0) > a0_3
       ·rw [if_pos c15] at H
        have c15b0 : decide (a0_3 < (rd (rd_L1 t178 x12_1) 0)) = true := decide_eq_true c15
        clear c15
        by_cases c16 : x5_1.length < 17592186044416
        ·rw [if_pos c16] at H
         have LMc16 := m_ c16
         clear c16
         obtain ⟨y183, hy183⟩ : ∃ y_ : List Int, y_ = (x5_1 ++ [x12_1]) := ⟨_, rfl⟩
         replace H : (spec_plOver.l0 k1 y183 t178 (t178.length : Int) (wrap64 (x12_1 + 1)) l0_0 l0_1 l0_2 a0_3 a0_4 a0_5 a0_6 a0_7) = some r := by first | (rw [hy183]; with_reducible exact H) | (have H2_ := (Option.bind_some _ _).symm.trans H; rw [hy183]; with_reducible exact H2_) | (have H2_ := (Option.bind_some _ _).symm.trans H; with_reducible exact H2_) | with_reducible exact H | (rw [hy183]; exact H) | exact H
         have Ny183 := m_ hy183
         clear hy183
         have H' := m_ H
         clear H
         have p181 : 0 ≤ (x12_1 : Int) := dax0
         have q181 : x12_1 < (t178.length : Int) := dax0
         obtain ⟨ad181, A181_0, c181_0, e181, hx181_0, hl181_0, hi181_0⟩ := at_L1 (Kd.S_reads' HO_10.out).2.2 x12_1 p181 q181
         cases e181
         obtain ⟨ce181, hce181, hMe181, hcc181⟩ := Kd.S_get HO_10.out [] x12_1 p181 (by first | exact q181 | exact dax0 | (have e_ := (Kd.S_reads' HO_10.out).1; omega))
         obtain ⟨ve181_0, rfl, ge181_0⟩ := hMe181
         have hv181_0 := hcc181 0 _ rfl
         rw [Nat.add_zero, show ((Kd.slice 3 (Kd.int .i64))).sz = 1 from rfl, Nat.mul_one] at hv181_0
         replace hv181_0 := Option.some.inj (hv181_0.symm.trans hx181_0)
         rw [hv181_0] at ge181_0
         have HL181_0 := m_ (show Kd.R (Kd.int .i64) 3 _ _ _ _ (rd_L1 t178 x12_1) from ge181_0)
         clear hv181_0 ge181_0 hcc181 hce181
         have HR181_0 := m_ hi181_0
         have HC181_0 := m_ hl181_0
         clear hi181_0 hl181_0
         replace p181 := eq_true p181
         replace q181 := eq_true q181
         have p182 : 0 ≤ (0 : Int) := (by omega)
         have q182 : 0 < ((rd_L1 t178 x12_1).length : Int) := dax0
         obtain ⟨ad182, e182, hx182_0⟩ := Kd.at_int (by repeat (first | (with_reducible exact HR181_0.out) | (with_reducible refine Kd.C_alloc ?_ _) | (with_reducible refine Kd.C_drewN ?_ _) | (with_reducible refine Kd.C_drew ?_) | exact HR181_0.out)) 0 p182 q182
         cases e182
         have qi182 : (0 < (rd_L1 t178 x12_1).length) = True := eq_true (by omega)
         (try rw [show ((0 : Int)).toNat = 0 from rfl] at hx182_0)
         (try rw [Addr.add_zero'] at hx182_0)
         replace p182 := eq_true p182
         replace q182 := eq_true q182
         have hnb17 := NB176_177.out
         have hnc17 := NB177_176.out
         obtain ⟨hcz18_0, hcz18_1, hcz18_2, hcz18_3, hcz18_4, hcz18_5, hcz18_6, hcz18_7, hfz18_0, hfz18_1, hfz18_2, hfz18_3, hfz18_4, hfz18_5, hfz18_6, hfz18_7⟩ := cf8x0 BK176.out
         go_wp2_with (first | ((with_reducible refine gate_builtin (b := .append) (xs := #[.tmp 33, .tmp 35]) rfl ?_); at_builtin; refine Kd.R_append (Kd.int .i64) (w0 := w) w.heap.size rfl (.tmp 33) (.tmp 35) 24 3 (.int .i64 0) 8 rfl Try.underlying24 info3 rfl (by decide) (by omega) u5 x5_1 x12_1 [.int .i64 x12_1] (fun _ => True) (fun _ => False) rfl rfl ?aP (fun _ hk => hk.elim) ?aF ?aO ?aB ?aS ?aL ?_; (case aP => exact rfl); (case aB => exact (be2x0 HB.out GE176.out GE177.out)); (case aF => exact (fun _ _ => trivial)); (case aO => exact (rRx0 HO_5.out)); (case aS => exact (below_size (be2x0 HB.out GE176.out GE177.out))); (case aL => have := LMc16.out; omega); intro v184 w19 ho hb hg hat; rw [← Ny183.out] at ho; replace HO_10 := m_ (Kd.S_after (ok := (fun _ => True)) (by (with_reducible repeat (first | apply Kd.S_alloc | apply Kd.S_drewN | apply Kd.S_drew)); exact Kd.S_mono HO_10.out (fun _ hk => ⟨trivial, hk⟩)) hg hat); replace BK176 := m_ (blk_grown (g := gb176) (o := .cells #[.slice A0_0 l0_0.length c0_0, .slice A0_1 l0_1.length c0_1, .slice A0_2 l0_2.length c0_2, .int .i64 a0_3, .int .i64 a0_4, .int .i64 a0_5, .int .i64 a0_6, .int .i64 a0_7] 45 (0, 0)) (rBx0 BK176.out) hg (Kd.R_ne HO_5.out BK176.out (by decide))); replace BK177 := m_ (blk_grown (g := gb177) (o := .cells #[.int .i64 a1_0, .slice A1_1 l1_1.length c1_1] 47 (0, 0)) (rBx0 BK177.out) hg (Kd.R_ne HO_5.out BK177.out (by decide))); replace HL181_0 := m_ (Kd.R_after (ok := (fun k_ => some k_ ≠ (.slice (some ad181) t178.length co10 : Value).ownBlock)) (by exact rRx0 (mox0 HL181_0.out)) hg hat); replace HB := m_ (hb); have HO185 := m_ (ho); clear HO_5 ho hb hg hat))
         repeat (go_quiet (first | ((with_reducible refine gate_builtin (b := .append) (xs := #[.tmp 33, .tmp 35]) rfl ?_); at_builtin; refine Kd.R_append (Kd.int .i64) (w0 := w) w.heap.size rfl (.tmp 33) (.tmp 35) 24 3 (.int .i64 0) 8 rfl Try.underlying24 info3 rfl (by decide) (by omega) u5 x5_1 x12_1 [.int .i64 x12_1] (fun _ => True) (fun _ => False) rfl rfl ?aP (fun _ hk => hk.elim) ?aF ?aO ?aB ?aS ?aL ?_; (case aP => exact rfl); (case aB => exact (be2x0 HB.out GE176.out GE177.out)); (case aF => exact (fun _ _ => trivial)); (case aO => exact (rRx0 HO_5.out)); (case aS => exact (below_size (be2x0 HB.out GE176.out GE177.out))); (case aL => have := LMc16.out; omega); intro v184 w19 ho hb hg hat; rw [← Ny183.out] at ho; replace HO_10 := m_ (Kd.S_after (ok := (fun _ => True)) (by (with_reducible repeat (first | apply Kd.S_alloc | apply Kd.S_drewN | apply Kd.S_drew)); exact Kd.S_mono HO_10.out (fun _ hk => ⟨trivial, hk⟩)) hg hat); replace BK176 := m_ (blk_grown (g := gb176) (o := .cells #[.slice A0_0 l0_0.length c0_0, .slice A0_1 l0_1.length c0_1, .slice A0_2 l0_2.length c0_2, .int .i64 a0_3, .int .i64 a0_4, .int .i64 a0_5, .int .i64 a0_6, .int .i64 a0_7] 45 (0, 0)) (rBx0 BK176.out) hg (Kd.R_ne HO_5.out BK176.out (by decide))); replace BK177 := m_ (blk_grown (g := gb177) (o := .cells #[.int .i64 a1_0, .slice A1_1 l1_1.length c1_1] 47 (0, 0)) (rBx0 BK177.out) hg (Kd.R_ne HO_5.out BK177.out (by decide))); replace HL181_0 := m_ (Kd.R_after (ok := (fun k_ => some k_ ≠ (.slice (some ad181) t178.length co10 : Value).ownBlock)) (by exact rRx0 (mox0 HL181_0.out)) hg hat); replace HB := m_ (hb); have HO185 := m_ (ho); clear HO_5 ho hb hg hat)); try go_wp2_with (first | ((with_reducible refine gate_builtin (b := .append) (xs := #[.tmp 33, .tmp 35]) rfl ?_); at_builtin; refine Kd.R_append (Kd.int .i64) (w0 := w) w.heap.size rfl (.tmp 33) (.tmp 35) 24 3 (.int .i64 0) 8 rfl Try.underlying24 info3 rfl (by decide) (by omega) u5 x5_1 x12_1 [.int .i64 x12_1] (fun _ => True) (fun _ => False) rfl rfl ?aP (fun _ hk => hk.elim) ?aF ?aO ?aB ?aS ?aL ?_; (case aP => exact rfl); (case aB => exact (be2x0 HB.out GE176.out GE177.out)); (case aF => exact (fun _ _ => trivial)); (case aO => exact (rRx0 HO_5.out)); (case aS => exact (below_size (be2x0 HB.out GE176.out GE177.out))); (case aL => have := LMc16.out; omega); intro v184 w19 ho hb hg hat; rw [← Ny183.out] at ho; replace HO_10 := m_ (Kd.S_after (ok := (fun _ => True)) (by (with_reducible repeat (first | apply Kd.S_alloc | apply Kd.S_drewN | apply Kd.S_drew)); exact Kd.S_mono HO_10.out (fun _ hk => ⟨trivial, hk⟩)) hg hat); replace BK176 := m_ (blk_grown (g := gb176) (o := .cells #[.slice A0_0 l0_0.length c0_0, .slice A0_1 l0_1.length c0_1, .slice A0_2 l0_2.length c0_2, .int .i64 a0_3, .int .i64 a0_4, .int .i64 a0_5, .int .i64 a0_6, .int .i64 a0_7] 45 (0, 0)) (rBx0 BK176.out) hg (Kd.R_ne HO_5.out BK176.out (by decide))); replace BK177 := m_ (blk_grown (g := gb177) (o := .cells #[.int .i64 a1_0, .slice A1_1 l1_1.length c1_1] 47 (0, 0)) (rBx0 BK177.out) hg (Kd.R_ne HO_5.out BK177.out (by decide))); replace HL181_0 := m_ (Kd.R_after (ok := (fun k_ => some k_ ≠ (.slice (some ad181) t178.length co10 : Value).ownBlock)) (by exact rRx0 (mox0 HL181_0.out)) hg hat); replace HB := m_ (hb); have HO185 := m_ (ho); clear HO_5 ho hb hg hat)))
         go_roundg k1
         case measure => have := HK1.out; omega
         case rel => exact ⟨(y183), (wrap64 (x12_1 + 1)), frx0, H', ⟨by have := HK1.out; omega⟩, ⟨rRx0 HO185.out⟩, ⟨by (with_reducible repeat (first | apply Kd.S_alloc | apply Kd.S_drewN | apply Kd.S_drew)); exact Kd.S_mono HO_10.out (fun _ hk => hk.2)⟩, ⟨rBx0 BK176.out⟩, ⟨rBx0 BK177.out⟩, ⟨be2x0 HB.out GE176.out GE177.out⟩⟩
        ·rw [if_neg c16] at H
         exact absurd H (by simp)
       ·rw [if_neg c15] at H
        have c15b0 : decide (a0_3 < (rd (rd_L1 t178 x12_1) 0)) = false := decide_eq_false c15
        clear c15
        by_cases c20 : 1 < ((rd_L1 t178 x12_1).length : Int)
        ·rw [if_pos c20] at H
         have c20b0 := decide_eq_true c20
         have c20b1 : decide (1 < (rd_L1 t178 x12_1).length) = true := decide_eq_true (by omega)
         clear c20
         by_cases c21 : (rd (rd_L1 t178 x12_1) 1) > a0_4
         ·rw [if_pos c21] at H
          have c21b0 : decide (a0_4 < (rd (rd_L1 t178 x12_1) 1)) = true := decide_eq_true c21
          clear c21
          by_cases c22 : x5_1.length < 17592186044416
          ·rw [if_pos c22] at H
           have LMc22 := m_ c22
           clear c22
           obtain ⟨y187, hy187⟩ : ∃ y_ : List Int, y_ = (x5_1 ++ [x12_1]) := ⟨_, rfl⟩
           replace H : (spec_plOver.l0 k1 y187 t178 (t178.length : Int) (wrap64 (x12_1 + 1)) l0_0 l0_1 l0_2 a0_3 a0_4 a0_5 a0_6 a0_7) = some r := by first | (rw [hy187]; with_reducible exact H) | (have H2_ := (Option.bind_some _ _).symm.trans H; rw [hy187]; with_reducible exact H2_) | (have H2_ := (Option.bind_some _ _).symm.trans H; with_reducible exact H2_) | with_reducible exact H | (rw [hy187]; exact H) | exact H
           have Ny187 := m_ hy187
           clear hy187
           have H' := m_ H
           clear H
           have p181 : 0 ≤ (x12_1 : Int) := dax0
           have q181 : x12_1 < (t178.length : Int) := dax0
           obtain ⟨ad181, A181_0, c181_0, e181, hx181_0, hl181_0, hi181_0⟩ := at_L1 (Kd.S_reads' HO_10.out).2.2 x12_1 p181 q181
           cases e181
           obtain ⟨ce181, hce181, hMe181, hcc181⟩ := Kd.S_get HO_10.out [] x12_1 p181 (by first | exact q181 | exact dax0 | (have e_ := (Kd.S_reads' HO_10.out).1; omega))
           obtain ⟨ve181_0, rfl, ge181_0⟩ := hMe181
           have hv181_0 := hcc181 0 _ rfl
           rw [Nat.add_zero, show ((Kd.slice 3 (Kd.int .i64))).sz = 1 from rfl, Nat.mul_one] at hv181_0
           replace hv181_0 := Option.some.inj (hv181_0.symm.trans hx181_0)
           rw [hv181_0] at ge181_0
           have HL181_0 := m_ (show Kd.R (Kd.int .i64) 3 _ _ _ _ (rd_L1 t178 x12_1) from ge181_0)
           clear hv181_0 ge181_0 hcc181 hce181
           have HR181_0 := m_ hi181_0
           have HC181_0 := m_ hl181_0
           clear hi181_0 hl181_0
           replace p181 := eq_true p181
           replace q181 := eq_true q181
           have p182 : 0 ≤ (0 : Int) := (by omega)
           have q182 : 0 < ((rd_L1 t178 x12_1).length : Int) := dax0
           obtain ⟨ad182, e182, hx182_0⟩ := Kd.at_int (by repeat (first | (with_reducible exact HR181_0.out) | (with_reducible refine Kd.C_alloc ?_ _) | (with_reducible refine Kd.C_drewN ?_ _) | (with_reducible refine Kd.C_drew ?_) | exact HR181_0.out)) 0 p182 q182
           cases e182
           have qi182 : (0 < (rd_L1 t178 x12_1).length) = True := eq_true (by omega)
           (try rw [show ((0 : Int)).toNat = 0 from rfl] at hx182_0)
           (try rw [Addr.add_zero'] at hx182_0)
           replace p182 := eq_true p182
           replace q182 := eq_true q182
           have hnb23 := NB176_177.out
           have hnc23 := NB177_176.out
           obtain ⟨hcz24_0, hcz24_1, hcz24_2, hcz24_3, hcz24_4, hcz24_5, hcz24_6, hcz24_7, hfz24_0, hfz24_1, hfz24_2, hfz24_3, hfz24_4, hfz24_5, hfz24_6, hfz24_7⟩ := cf8x0 BK176.out
           have p186 : 0 ≤ (1 : Int) := (by omega)
           have q186 : 1 < ((rd_L1 t178 x12_1).length : Int) := dax0
           obtain ⟨ad186, e186, hx186_0⟩ := Kd.at_int (by repeat (first | (with_reducible exact HR181_0.out) | (with_reducible refine Kd.C_alloc ?_ _) | (with_reducible refine Kd.C_drewN ?_ _) | (with_reducible refine Kd.C_drew ?_) | exact HR181_0.out)) 1 p186 q186
           obtain rfl : ad182 = ad186 := (by injection e186)
           (try simp only [show (1 : Int).toNat = 1 from rfl, Nat.reduceMul, Nat.reduceEqDiff, Go.Addr.add, ↓reduceIte] at hx186_0)
           have qi186 : (1 < (rd_L1 t178 x12_1).length) = True := eq_true (by omega)
           (try rw [show ((1 : Int)).toNat = 1 from rfl] at hx186_0)
           replace p186 := eq_true p186
           replace q186 := eq_true q186
           go_wp2_with (first | ((with_reducible refine gate_builtin (b := .append) (xs := #[.tmp 33, .tmp 35]) rfl ?_); at_builtin; refine Kd.R_append (Kd.int .i64) (w0 := w) w.heap.size rfl (.tmp 33) (.tmp 35) 24 3 (.int .i64 0) 8 rfl Try.underlying24 info3 rfl (by decide) (by omega) u5 x5_1 x12_1 [.int .i64 x12_1] (fun _ => True) (fun _ => False) rfl rfl ?aP (fun _ hk => hk.elim) ?aF ?aO ?aB ?aS ?aL ?_; (case aP => exact rfl); (case aB => exact (be2x0 HB.out GE176.out GE177.out)); (case aF => exact (fun _ _ => trivial)); (case aO => exact (rRx0 HO_5.out)); (case aS => exact (below_size (be2x0 HB.out GE176.out GE177.out))); (case aL => have := LMc22.out; omega); intro v188 w25 ho hb hg hat; rw [← Ny187.out] at ho; replace HO_10 := m_ (Kd.S_after (ok := (fun _ => True)) (by (with_reducible repeat (first | apply Kd.S_alloc | apply Kd.S_drewN | apply Kd.S_drew)); exact Kd.S_mono HO_10.out (fun _ hk => ⟨trivial, hk⟩)) hg hat); replace BK176 := m_ (blk_grown (g := gb176) (o := .cells #[.slice A0_0 l0_0.length c0_0, .slice A0_1 l0_1.length c0_1, .slice A0_2 l0_2.length c0_2, .int .i64 a0_3, .int .i64 a0_4, .int .i64 a0_5, .int .i64 a0_6, .int .i64 a0_7] 45 (0, 0)) (rBx0 BK176.out) hg (Kd.R_ne HO_5.out BK176.out (by decide))); replace BK177 := m_ (blk_grown (g := gb177) (o := .cells #[.int .i64 a1_0, .slice A1_1 l1_1.length c1_1] 47 (0, 0)) (rBx0 BK177.out) hg (Kd.R_ne HO_5.out BK177.out (by decide))); replace HL181_0 := m_ (Kd.R_after (ok := (fun k_ => some k_ ≠ (.slice (some ad181) t178.length co10 : Value).ownBlock)) (by exact rRx0 (mox0 HL181_0.out)) hg hat); replace HB := m_ (hb); have HO189 := m_ (ho); clear HO_5 ho hb hg hat))
           repeat (go_quiet (first | ((with_reducible refine gate_builtin (b := .append) (xs := #[.tmp 33, .tmp 35]) rfl ?_); at_builtin; refine Kd.R_append (Kd.int .i64) (w0 := w) w.heap.size rfl (.tmp 33) (.tmp 35) 24 3 (.int .i64 0) 8 rfl Try.underlying24 info3 rfl (by decide) (by omega) u5 x5_1 x12_1 [.int .i64 x12_1] (fun _ => True) (fun _ => False) rfl rfl ?aP (fun _ hk => hk.elim) ?aF ?aO ?aB ?aS ?aL ?_; (case aP => exact rfl); (case aB => exact (be2x0 HB.out GE176.out GE177.out)); (case aF => exact (fun _ _ => trivial)); (case aO => exact (rRx0 HO_5.out)); (case aS => exact (below_size (be2x0 HB.out GE176.out GE177.out))); (case aL => have := LMc22.out; omega); intro v188 w25 ho hb hg hat; rw [← Ny187.out] at ho; replace HO_10 := m_ (Kd.S_after (ok := (fun _ => True)) (by (with_reducible repeat (first | apply Kd.S_alloc | apply Kd.S_drewN | apply Kd.S_drew)); exact Kd.S_mono HO_10.out (fun _ hk => ⟨trivial, hk⟩)) hg hat); replace BK176 := m_ (blk_grown (g := gb176) (o := .cells #[.slice A0_0 l0_0.length c0_0, .slice A0_1 l0_1.length c0_1, .slice A0_2 l0_2.length c0_2, .int .i64 a0_3, .int .i64 a0_4, .int .i64 a0_5, .int .i64 a0_6, .int .i64 a0_7] 45 (0, 0)) (rBx0 BK176.out) hg (Kd.R_ne HO_5.out BK176.out (by decide))); replace BK177 := m_ (blk_grown (g := gb177) (o := .cells #[.int .i64 a1_0, .slice A1_1 l1_1.length c1_1] 47 (0, 0)) (rBx0 BK177.out) hg (Kd.R_ne HO_5.out BK177.out (by decide))); replace HL181_0 := m_ (Kd.R_after (ok := (fun k_ => some k_ ≠ (.slice (some ad181) t178.length co10 : Value).ownBlock)) (by exact rRx0 (mox0 HL181_0.out)) hg hat); replace HB := m_ (hb); have HO189 := m_ (ho); clear HO_5 ho hb hg hat)); try go_wp2_with (first | ((with_reducible refine gate_builtin (b := .append) (xs := #[.tmp 33, .tmp 35]) rfl ?_); at_builtin; refine Kd.R_append (Kd.int .i64) (w0 := w) w.heap.size rfl (.tmp 33) (.tmp 35) 24 3 (.int .i64 0) 8 rfl Try.underlying24 info3 rfl (by decide) (by omega) u5 x5_1 x12_1 [.int .i64 x12_1] (fun _ => True) (fun _ => False) rfl rfl ?aP (fun _ hk => hk.elim) ?aF ?aO ?aB ?aS ?aL ?_; (case aP => exact rfl); (case aB => exact (be2x0 HB.out GE176.out GE177.out)); (case aF => exact (fun _ _ => trivial)); (case aO => exact (rRx0 HO_5.out)); (case aS => exact (below_size (be2x0 HB.out GE176.out GE177.out))); (case aL => have := LMc22.out; omega); intro v188 w25 ho hb hg hat; rw [← Ny187.out] at ho; replace HO_10 := m_ (Kd.S_after (ok := (fun _ => True)) (by (with_reducible repeat (first | apply Kd.S_alloc | apply Kd.S_drewN | apply Kd.S_drew)); exact Kd.S_mono HO_10.out (fun _ hk => ⟨trivial, hk⟩)) hg hat); replace BK176 := m_ (blk_grown (g := gb176) (o := .cells #[.slice A0_0 l0_0.length c0_0, .slice A0_1 l0_1.length c0_1, .slice A0_2 l0_2.length c0_2, .int .i64 a0_3, .int .i64 a0_4, .int .i64 a0_5, .int .i64 a0_6, .int .i64 a0_7] 45 (0, 0)) (rBx0 BK176.out) hg (Kd.R_ne HO_5.out BK176.out (by decide))); replace BK177 := m_ (blk_grown (g := gb177) (o := .cells #[.int .i64 a1_0, .slice A1_1 l1_1.length c1_1] 47 (0, 0)) (rBx0 BK177.out) hg (Kd.R_ne HO_5.out BK177.out (by decide))); replace HL181_0 := m_ (Kd.R_after (ok := (fun k_ => some k_ ≠ (.slice (some ad181) t178.length co10 : Value).ownBlock)) (by exact rRx0 (mox0 HL181_0.out)) hg hat); replace HB := m_ (hb); have HO189 := m_ (ho); clear HO_5 ho hb hg hat)))
           go_roundg k1
           case measure => have := HK1.out; omega
           case rel => exact ⟨(y187), (wrap64 (x12_1 + 1)), frx0, H', ⟨by have := HK1.out; omega⟩, ⟨rRx0 HO189.out⟩, ⟨by (with_reducible repeat (first | apply Kd.S_alloc | apply Kd.S_drewN | apply Kd.S_drew)); exact Kd.S_mono HO_10.out (fun _ hk => hk.2)⟩, ⟨rBx0 BK176.out⟩, ⟨rBx0 BK177.out⟩, ⟨be2x0 HB.out GE176.out GE177.out⟩⟩
          ·rw [if_neg c22] at H
           exact absurd H (by simp)
         ·rw [if_neg c21] at H
          have c21b0 : decide (a0_4 < (rd (rd_L1 t178 x12_1) 1)) = false := decide_eq_false c21
          clear c21
          have H' := m_ H
          clear H
          have p181 : 0 ≤ (x12_1 : Int) := dax0
          have q181 : x12_1 < (t178.length : Int) := dax0
          obtain ⟨ad181, A181_0, c181_0, e181, hx181_0, hl181_0, hi181_0⟩ := at_L1 (Kd.S_reads' HO_10.out).2.2 x12_1 p181 q181
          cases e181
          obtain ⟨ce181, hce181, hMe181, hcc181⟩ := Kd.S_get HO_10.out [] x12_1 p181 (by first | exact q181 | exact dax0 | (have e_ := (Kd.S_reads' HO_10.out).1; omega))
          obtain ⟨ve181_0, rfl, ge181_0⟩ := hMe181
          have hv181_0 := hcc181 0 _ rfl
          rw [Nat.add_zero, show ((Kd.slice 3 (Kd.int .i64))).sz = 1 from rfl, Nat.mul_one] at hv181_0
          replace hv181_0 := Option.some.inj (hv181_0.symm.trans hx181_0)
          rw [hv181_0] at ge181_0
          have HL181_0 := m_ (show Kd.R (Kd.int .i64) 3 _ _ _ _ (rd_L1 t178 x12_1) from ge181_0)
          clear hv181_0 ge181_0 hcc181 hce181
          have HR181_0 := m_ hi181_0
          have HC181_0 := m_ hl181_0
          clear hi181_0 hl181_0
          replace p181 := eq_true p181
          replace q181 := eq_true q181
          have p182 : 0 ≤ (0 : Int) := (by omega)
          have q182 : 0 < ((rd_L1 t178 x12_1).length : Int) := dax0
          obtain ⟨ad182, e182, hx182_0⟩ := Kd.at_int (by repeat (first | (with_reducible exact HR181_0.out) | (with_reducible refine Kd.C_alloc ?_ _) | (with_reducible refine Kd.C_drewN ?_ _) | (with_reducible refine Kd.C_drew ?_) | exact HR181_0.out)) 0 p182 q182
          cases e182
          have qi182 : (0 < (rd_L1 t178 x12_1).length) = True := eq_true (by omega)
          (try rw [show ((0 : Int)).toNat = 0 from rfl] at hx182_0)
          (try rw [Addr.add_zero'] at hx182_0)
          replace p182 := eq_true p182
          replace q182 := eq_true q182
          have hnb26 := NB176_177.out
          have hnc26 := NB177_176.out
          obtain ⟨hcz27_0, hcz27_1, hcz27_2, hcz27_3, hcz27_4, hcz27_5, hcz27_6, hcz27_7, hfz27_0, hfz27_1, hfz27_2, hfz27_3, hfz27_4, hfz27_5, hfz27_6, hfz27_7⟩ := cf8x0 BK176.out
          have p186 : 0 ≤ (1 : Int) := (by omega)
          have q186 : 1 < ((rd_L1 t178 x12_1).length : Int) := dax0
          obtain ⟨ad186, e186, hx186_0⟩ := Kd.at_int (by repeat (first | (with_reducible exact HR181_0.out) | (with_reducible refine Kd.C_alloc ?_ _) | (with_reducible refine Kd.C_drewN ?_ _) | (with_reducible refine Kd.C_drew ?_) | exact HR181_0.out)) 1 p186 q186
          obtain rfl : ad182 = ad186 := (by injection e186)
          (try simp only [show (1 : Int).toNat = 1 from rfl, Nat.reduceMul, Nat.reduceEqDiff, Go.Addr.add, ↓reduceIte] at hx186_0)
          have qi186 : (1 < (rd_L1 t178 x12_1).length) = True := eq_true (by omega)
          (try rw [show ((1 : Int)).toNat = 1 from rfl] at hx186_0)
          replace p186 := eq_true p186
          replace q186 := eq_true q186
          go_wp2
          repeat (go_quiet (fail); try go_wp2)
          go_roundg k1
          case measure => have := HK1.out; omega
          case rel => exact ⟨(x5_1), (wrap64 (x12_1 + 1)), frx0, H', ⟨by have := HK1.out; omega⟩, ⟨rRx0 HO_5.out⟩, ⟨rSx0 HO_10.out⟩, ⟨rBx0 BK176.out⟩, ⟨rBx0 BK177.out⟩, ⟨be2x0 HB.out GE176.out GE177.out⟩⟩
        ·rw [if_neg c20] at H
         exact absurd H (by simp)
      ·rw [if_neg c14] at H
       exact absurd H (by simp)
     ·rw [if_neg c13] at H
      exact absurd H (by simp)
    ·rw [if_neg c12] at H
     exact absurd H (by simp)
   ·rw [if_neg c11] at H
    have c11b0 := decide_eq_false c11
    clear c11
    obtain rfl := Option.some.inj H
    go_wp2
    repeat (go_quiet (fail); try go_wp2)
    go_ret
    exact ⟨_, by first | rfl | (simp [errW_none, errW_some] <;> rfl) | (simp [*, errW_none, errW_some] <;> rfl), rRx0 HO_5.out, be2x0 HB.out GE176.out GE177.out⟩

/-! ### spec_plFeasible: function 65 -/
def spec_plFeasible.f (k : Nat) (l0_0 : List (List Int)) (l0_1 : List Int) (l0_2 : List Int) (a0_3 : Int) (a0_4 : Int) (a0_5 : Int) (a0_6 : Int) (a0_7 : Int) (a1_0 : Int) (l1_1 : List Int) : Option (Bool) := (spec_plFaults.f k l0_0 l0_1 l0_2 a0_3 a0_4 a0_5 a0_6 a0_7 a1_0 l1_1).bind fun t192 => (if (t192.length : Int) = 0 then ((spec_plOver.f k l0_0 l0_1 l0_2 a0_3 a0_4 a0_5 a0_6 a0_7 a1_0 l1_1).bind fun t195 => (some ((t195.length : Int) == 0))) else (some false))
theorem spec_plFeasible.mono : ∀ a0 a1 a2 a3 a4 a5 a6 a7 a8 a9 k, LeO (spec_plFeasible.f k a0 a1 a2 a3 a4 a5 a6 a7 a8 a9) (spec_plFeasible.f (k + 1) a0 a1 a2 a3 a4 a5 a6 a7 a8 a9) := by
 intro a0 a1 a2 a3 a4 a5 a6 a7 a8 a9 k
 unfold spec_plFeasible.f
 repeat' first
   | (with_reducible exact spec_plFaults.mono _ _ _ _ _ _ _ _ _ _ _)
   | (with_reducible exact spec_plOver.mono _ _ _ _ _ _ _ _ _ _ _)
   | (with_reducible exact LeO.refl _)
   | (with_reducible exact LeO.none _)
   | (with_reducible refine LeO.ite ?_ ?_)
   | (with_reducible refine LeO.bind ?_ (fun _ => ?_))
   | exact spec_plFaults.mono _ _ _ _ _ _ _ _ _ _ _
   | exact spec_plOver.mono _ _ _ _ _ _ _ _ _ _ _
   | exact LeO.none _
   | refine LeO.ite ?_ ?_
   | refine LeO.bind ?_ (fun _ => ?_)
set_option maxHeartbeats 8000000 in
set_option maxRecDepth 100000 in
theorem spec_plFeasible.calls (k : Nat) (A0_0 : Option Addr) (c0_0 : Nat) (l0_0 : List (List Int)) (A0_1 : Option Addr) (c0_1 : Nat) (l0_1 : List Int) (A0_2 : Option Addr) (c0_2 : Nat) (l0_2 : List Int) (a0_3 : Int) (a0_4 : Int) (a0_5 : Int) (a0_6 : Int) (a0_7 : Int) (a1_0 : Int) (A1_1 : Option Addr) (c1_1 : Nat) (l1_1 : List Int) (r : Bool) (w : World) (hr0_0 : Kd.C (Kd.slice 3 (Kd.int .i64)) w A0_0 l0_0.length l0_0) (hc0_0 : l0_0.length ≤ c0_0) (hr0_1 : Kd.C (Kd.int .i64) w A0_1 l0_1.length l0_1) (hc0_1 : l0_1.length ≤ c0_1) (hr0_2 : Kd.C (Kd.int .i64) w A0_2 l0_2.length l0_2) (hc0_2 : l0_2.length ≤ c0_2) (hr1_1 : Kd.C (Kd.int .i64) w A1_1 l1_1.length l1_1) (hc1_1 : l1_1.length ≤ c1_1) (h : spec_plFeasible.f k l0_0 l0_1 l0_2 a0_3 a0_4 a0_5 a0_6 a0_7 a1_0 l1_1 = some r) :
  Calls Try.prog 65 #[.agg #[.slice A0_0 l0_0.length c0_0, .slice A0_1 l0_1.length c0_1, .slice A0_2 l0_2.length c0_2, .int .i64 a0_3, .int .i64 a0_4, .int .i64 a0_5, .int .i64 a0_6, .int .i64 a0_7], .agg #[.int .i64 a1_0, .slice A1_1 l1_1.length c1_1]] w fun e w' => e = .returned (.bool r) ∧ Below w.heap.size w w' := by
 have hu45 := Try.underlying45
 have hu47 := Try.underlying47
 have HR0_0 := m_ hr0_0
 have HC0_0 := m_ hc0_0
 clear hr0_0 hc0_0
 have HR0_1 := m_ hr0_1
 have HC0_1 := m_ hc0_1
 clear hr0_1 hc0_1
 have HR0_2 := m_ hr0_2
 have HC0_2 := m_ hc0_2
 clear hr0_2 hc0_2
 have HR1_1 := m_ hr1_1
 have HC1_1 := m_ hc1_1
 clear hr1_1 hc1_1
 have HB := m_ (Below.refl w.heap.size w)
 have H : ((spec_plFaults.f k l0_0 l0_1 l0_2 a0_3 a0_4 a0_5 a0_6 a0_7 a1_0 l1_1).bind fun t192 => (if (t192.length : Int) = 0 then ((spec_plOver.f k l0_0 l0_1 l0_2 a0_3 a0_4 a0_5 a0_6 a0_7 a1_0 l1_1).bind fun t195 => (some ((t195.length : Int) == 0))) else (some false))) = some r := h
 clear h
 replace H := Option.bind_eq_some_iff.mp H
 obtain ⟨t192, A30, H⟩ := H
 have A3 := m_ A30
 clear A30
 by_cases c4 : (t192.length : Int) = 0
 ·rw [if_pos c4] at H
  have c4b0 : ((t192.length : Int) == 0) = true := beq_iff_eq.mpr c4
  have c4b1 : ((t192.length : Int) != 0) = false := bne_eq_false_iff_eq.mpr c4
  clear c4
  replace H := Option.bind_eq_some_iff.mp H
  obtain ⟨t195, A50, H⟩ := H
  have A5 := m_ A50
  clear A50
  obtain rfl := Option.some.inj H
  go_enter Try.func65, Try.ntmps65
  go_wp2_with (first | ((with_reducible refine gate_dst (N := 2) rfl ?_); (try (refine gate_guard (by rfl) ?_; dsimp only)); refine bxx0 2 45 #[.slice A0_0 l0_0.length c0_0, .slice A0_1 l0_1.length c0_1, .slice A0_2 l0_2.length c0_2, .int .i64 a0_3, .int .i64 a0_4, .int .i64 a0_5, .int .i64 a0_6, .int .i64 a0_7] (be0x0 HB.out) (below_size (be0x0 HB.out)) ?_; clear HB; intro gb190 w6 BK190 HB GE190 hb hg; clear hb hg) | ((with_reducible refine gate_dst (N := 3) rfl ?_); (try (refine gate_guard (by rfl) ?_; dsimp only)); refine bxx0 3 47 #[.int .i64 a1_0, .slice A1_1 l1_1.length c1_1] (be1x0 HB.out GE190.out) (below_size (be1x0 HB.out GE190.out)) ?_; clear HB; intro gb191 w7 BK191 HB GE191 hb hg; have NB190_191 := nbx0 BK190 hg; have NB191_190 := ncx0 BK190 hg; replace BK190 := kbx0 BK190 hb; clear hb hg; have hnb8 := NB190_191.out; have hnc8 := NB191_190.out; obtain ⟨hcz9_0, hcz9_1, hcz9_2, hcz9_3, hcz9_4, hcz9_5, hcz9_6, hcz9_7, hfz9_0, hfz9_1, hfz9_2, hfz9_3, hfz9_4, hfz9_5, hfz9_6, hfz9_7⟩ := cf8x0 BK190.out; obtain ⟨hcz10_0, hcz10_1, hfz10_0, hfz10_1⟩ := cf2x0 BK191.out) | ((with_reducible refine gate_callee (f := 85) rfl ?_); refine gLx0 (some 7) Try.func85 #[.agg #[.slice A0_0 l0_0.length c0_0, .slice A0_1 l0_1.length c0_1, .slice A0_2 l0_2.length c0_2, .int .i64 a0_3, .int .i64 a0_4, .int .i64 a0_5, .int .i64 a0_6, .int .i64 a0_7], .agg #[.int .i64 a1_0, .slice A1_1 l1_1.length c1_1]] ?_; (with_reducible refine (spec_plFaults.calls k _ _ l0_0 _ _ l0_1 _ _ l0_2 a0_3 a0_4 a0_5 a0_6 a0_7 a1_0 _ _ l1_1 t192 _ ?side1 ?side2 ?side3 ?side4 ?side5 ?side6 ?side7 ?side8 A3.out).mono ?_); (case side1 => exact rCx0 (Kd.C_below HR0_0.out HB.out)); (case side2 => exact HC0_0.out); (case side3 => exact rCx0 (Kd.C_below HR0_1.out HB.out)); (case side4 => exact HC0_1.out); (case side5 => exact rCx0 (Kd.C_below HR0_2.out HB.out)); (case side6 => exact HC0_2.out); (case side7 => exact rCx0 (Kd.C_below HR1_1.out HB.out)); (case side8 => exact HC1_1.out); rintro e w11 ⟨v193, rfl, ho0, hb⟩; refine ⟨_, rfl, ?_⟩; have HO194 := m_ (Kd.S_lower ho0 (below_size (be2x0 HB.out GE190.out GE191.out))); replace BK190 := kbx0 BK190 hb; replace BK191 := kbx0 BK191 hb; replace HB := m_ (below_step (be2x0 HB.out GE190.out GE191.out) hb); (try clear hb); (try clear hb2); (try clear hk); (try clear hi); (try clear ho0); obtain ⟨Ao12, co12, eo12⟩ := Kd.S_slice HO194.out; subst eo12; obtain ⟨hcz13_0, hcz13_1, hcz13_2, hcz13_3, hcz13_4, hcz13_5, hcz13_6, hcz13_7, hfz13_0, hfz13_1, hfz13_2, hfz13_3, hfz13_4, hfz13_5, hfz13_6, hfz13_7⟩ := cf8x0 BK190.out; obtain ⟨hcz14_0, hcz14_1, hfz14_0, hfz14_1⟩ := cf2x0 BK191.out) | (go_at_call 86; (with_reducible refine (spec_plOver.calls k _ _ l0_0 _ _ l0_1 _ _ l0_2 a0_3 a0_4 a0_5 a0_6 a0_7 a1_0 _ _ l1_1 t195 _ ?side1 ?side2 ?side3 ?side4 ?side5 ?side6 ?side7 ?side8 A5.out).mono ?_); (case side1 => exact rCx0 (Kd.C_below HR0_0.out HB.out)); (case side2 => exact HC0_0.out); (case side3 => exact rCx0 (Kd.C_below HR0_1.out HB.out)); (case side4 => exact HC0_1.out); (case side5 => exact rCx0 (Kd.C_below HR0_2.out HB.out)); (case side6 => exact HC0_2.out); (case side7 => exact rCx0 (Kd.C_below HR1_1.out HB.out)); (case side8 => exact HC1_1.out); rintro e w15 ⟨v196, rfl, ho0, hb⟩; replace HO194 := m_ (Kd.S_elder' (rSx0 HO194.out) (Kd.R_base ho0) hb); have HO197 := m_ (Kd.R_lower ho0 (below_size (be2x0 HB.out GE190.out GE191.out))); replace BK190 := kbx0 BK190 hb; replace BK191 := kbx0 BK191 hb; replace HB := m_ (below_step (be2x0 HB.out GE190.out GE191.out) hb); (try clear hb); (try clear hb2); (try clear hk); (try clear hi); (try clear ho0); obtain ⟨Ao16, co16, eo16⟩ := Kd.R_slice HO197.out; subst eo16))
  go_ret
  exact ⟨by first | rfl | (simp [errW_none, errW_some] <;> rfl) | (simp [*, errW_none, errW_some] <;> rfl), be2x0 HB.out GE190.out GE191.out⟩
 ·rw [if_neg c4] at H
  have c4b0 : ((t192.length : Int) == 0) = false := beq_eq_false_iff_ne.mpr c4
  have c4b1 : ((t192.length : Int) != 0) = true := bne_iff_ne.mpr c4
  have c4b2 : ¬ (t192 = []) := fun h_ => c4 (by rw [h_]; rfl)
  obtain rfl := Option.some.inj H
  go_enter Try.func65, Try.ntmps65
  go_wp2_with (first | ((with_reducible refine gate_dst (N := 2) rfl ?_); (try (refine gate_guard (by rfl) ?_; dsimp only)); refine bxx0 2 45 #[.slice A0_0 l0_0.length c0_0, .slice A0_1 l0_1.length c0_1, .slice A0_2 l0_2.length c0_2, .int .i64 a0_3, .int .i64 a0_4, .int .i64 a0_5, .int .i64 a0_6, .int .i64 a0_7] (be0x0 HB.out) (below_size (be0x0 HB.out)) ?_; clear HB; intro gb190 w17 BK190 HB GE190 hb hg; clear hb hg) | ((with_reducible refine gate_dst (N := 3) rfl ?_); (try (refine gate_guard (by rfl) ?_; dsimp only)); refine bxx0 3 47 #[.int .i64 a1_0, .slice A1_1 l1_1.length c1_1] (be1x0 HB.out GE190.out) (below_size (be1x0 HB.out GE190.out)) ?_; clear HB; intro gb191 w18 BK191 HB GE191 hb hg; have NB190_191 := nbx0 BK190 hg; have NB191_190 := ncx0 BK190 hg; replace BK190 := kbx0 BK190 hb; clear hb hg; have hnb19 := NB190_191.out; have hnc19 := NB191_190.out; obtain ⟨hcz20_0, hcz20_1, hcz20_2, hcz20_3, hcz20_4, hcz20_5, hcz20_6, hcz20_7, hfz20_0, hfz20_1, hfz20_2, hfz20_3, hfz20_4, hfz20_5, hfz20_6, hfz20_7⟩ := cf8x0 BK190.out; obtain ⟨hcz21_0, hcz21_1, hfz21_0, hfz21_1⟩ := cf2x0 BK191.out) | ((with_reducible refine gate_callee (f := 85) rfl ?_); refine gLx0 (some 7) Try.func85 #[.agg #[.slice A0_0 l0_0.length c0_0, .slice A0_1 l0_1.length c0_1, .slice A0_2 l0_2.length c0_2, .int .i64 a0_3, .int .i64 a0_4, .int .i64 a0_5, .int .i64 a0_6, .int .i64 a0_7], .agg #[.int .i64 a1_0, .slice A1_1 l1_1.length c1_1]] ?_; (with_reducible refine (spec_plFaults.calls k _ _ l0_0 _ _ l0_1 _ _ l0_2 a0_3 a0_4 a0_5 a0_6 a0_7 a1_0 _ _ l1_1 t192 _ ?side1 ?side2 ?side3 ?side4 ?side5 ?side6 ?side7 ?side8 A3.out).mono ?_); (case side1 => exact rCx0 (Kd.C_below HR0_0.out HB.out)); (case side2 => exact HC0_0.out); (case side3 => exact rCx0 (Kd.C_below HR0_1.out HB.out)); (case side4 => exact HC0_1.out); (case side5 => exact rCx0 (Kd.C_below HR0_2.out HB.out)); (case side6 => exact HC0_2.out); (case side7 => exact rCx0 (Kd.C_below HR1_1.out HB.out)); (case side8 => exact HC1_1.out); rintro e w22 ⟨v193, rfl, ho0, hb⟩; refine ⟨_, rfl, ?_⟩; have HO194 := m_ (Kd.S_lower ho0 (below_size (be2x0 HB.out GE190.out GE191.out))); replace BK190 := kbx0 BK190 hb; replace BK191 := kbx0 BK191 hb; replace HB := m_ (below_step (be2x0 HB.out GE190.out GE191.out) hb); (try clear hb); (try clear hb2); (try clear hk); (try clear hi); (try clear ho0); obtain ⟨Ao23, co23, eo23⟩ := Kd.S_slice HO194.out; subst eo23))
  go_ret
  exact ⟨by first | rfl | (simp [errW_none, errW_some] <;> rfl) | (simp [*, errW_none, errW_some] <;> rfl), be2x0 HB.out GE190.out GE191.out⟩

/-! ### spec_acGrade: function 66 -/
def spec_acGrade.f (a0 : Int) : Option (Bool) := (spec_l1In.f a0 0 1001).bind fun t198 => (some t198)
set_option maxHeartbeats 8000000 in
set_option maxRecDepth 100000 in
theorem spec_acGrade.calls (a0 : Int) (r : Bool) (w : World) (h : spec_acGrade.f a0 = some r) :
  Calls Try.prog 66 #[.int .i64 a0] w fun e w' => e = .returned (.bool r) ∧ Drawn0 w w' := by
 have H : ((spec_l1In.f a0 0 1001).bind fun t198 => (some t198)) = some r := h
 clear h
 replace H := Option.bind_eq_some_iff.mp H
 obtain ⟨t198, A20, H⟩ := H
 have A2 := m_ A20
 clear A20
 obtain rfl := Option.some.inj H
 go_enter Try.func66, Try.ntmps66
 go_wp2_with (first | ((with_reducible refine gate_callee (f := 73) rfl ?_); refine gLx0 (some 4) Try.func73 #[.int .i64 a0, .int .i64 0, .int .i64 1001] ?_; (with_reducible refine (spec_l1In.calls a0 0 1001 t198 _ A2.out).mono ?_); rintro e w' ⟨rfl, ⟨nd, rfl⟩⟩; refine ⟨_, rfl, ?_⟩))
 go_ret
 exact ⟨frx0, drx0⟩

end Go.Proofs.Ytloddihakhgcdaa.PFnExactDestinationSums
