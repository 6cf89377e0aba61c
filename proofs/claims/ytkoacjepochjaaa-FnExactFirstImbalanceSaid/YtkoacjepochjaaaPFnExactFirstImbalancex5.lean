-- PRINTED BY print.sh 35421559b90ae4d0a3588c463048766b98c2df88dd9212a6774a882060cdf62d: not written by this session
import Derived.Test.YtkoacjepochjaaaPFnExactFirstImbalancex0
import Derived.Test.YtkoacjepochjaaaPFnExactFirstImbalancex1
import Derived.Test.YtkoacjepochjaaaPFnExactFirstImbalancex3
import Derived.Test.YtkoacjepochjaaaPFnExactFirstImbalancex4
namespace Go.Proofs.Ytkoacjepochjaaa.PFnExactFirstImbalance
open Go.RowKit Go.Proofs.YtkoacjepochjaaaW.PrintWords Go.Proofs.YtkoacjepochjaaaW.PrintLast Go.Proofs.YtkoacjepochjaaaW.PrintMore
attribute [local go_sem] max2_int min2_int max_two min_two max_three min_three max_four min_four   -- for this text's walks alone
set_option linter.unusedVariables false
set_option linter.unusedSimpArgs false

/-! ### impl_FirstImbalance: function 56 -/
mutual
def impl_FirstImbalance.j0 : Nat → Int → Int → List (List Int) → Bool → Option (Int × Bool)
  | 0, _, _, _, _ => none
  | k + 1, x0, x1, x2, x28 => if x28 = true then (some (0, false)) else (impl_FirstImbalance.l0 k x0 x1 x2 x2 (x2.length : Int) 0)
def impl_FirstImbalance.l0 : Nat → Int → Int → List (List Int) → List (List Int) → Int → Int → Option (Int × Bool)
  | 0, _, _, _, _, _, _ => none
  | k + 1, x0, x1, x2, x29, x30, x31 => if x31 < x30 then (if 0 ≤ x31 then (if x31 < (x29.length : Int) then (if 4 < ((rd_L1 x29 x31).length : Int) then (if 8 < ((rd_L1 x29 x31).length : Int) then (if 5 < ((rd_L1 x29 x31).length : Int) then (if 9 < ((rd_L1 x29 x31).length : Int) then ((impl_rowBalances.f (rd_L1 x29 x31)).bind fun t165 => (if t165 = true then (if 10 < ((rd_L1 x29 x31).length : Int) then (if (rd (rd_L1 x29 x31) 10) = (wrap64 (x0 + (wrap64 ((rd (rd_L1 x29 x31) 4) - (rd (rd_L1 x29 x31) 8))))) then (if 11 < ((rd_L1 x29 x31).length : Int) then (if (rd (rd_L1 x29 x31) 11) = (wrap64 (x1 + (wrap64 ((rd (rd_L1 x29 x31) 5) - (rd (rd_L1 x29 x31) 9))))) then (impl_FirstImbalance.l0 k (wrap64 (x0 + (wrap64 ((rd (rd_L1 x29 x31) 4) - (rd (rd_L1 x29 x31) 8))))) (wrap64 (x1 + (wrap64 ((rd (rd_L1 x29 x31) 5) - (rd (rd_L1 x29 x31) 9))))) x2 x29 x30 (wrap64 (x31 + 1))) else (some (x31, true))) else (none)) else (some (x31, true))) else (none)) else (some (x31, true)))) else (none)) else (none)) else (none)) else (none)) else (none)) else (none)) else (some ((x2.length : Int), true))
end
def impl_FirstImbalance.f (k : Nat) (a0 : Int) (a1 : Int) (l2 : List (List Int)) : Option (Int × Bool) := if a0 < 0 then (impl_FirstImbalance.j0 k a0 a1 l2 true) else (if a0 > 100000000000 then (impl_FirstImbalance.j0 k a0 a1 l2 true) else (if a1 < 0 then (impl_FirstImbalance.j0 k a0 a1 l2 true) else (if a1 > 100000000000 then (impl_FirstImbalance.j0 k a0 a1 l2 true) else ((impl_areAccountRows.f k l2).bind fun t159 => (impl_FirstImbalance.j0 k a0 a1 l2 (!t159))))))
theorem impl_FirstImbalance.mono_l : ∀ k, (∀ y0 y1 y2 y3, LeO (impl_FirstImbalance.j0 k y0 y1 y2 y3) (impl_FirstImbalance.j0 (k + 1) y0 y1 y2 y3)) ∧ (∀ y0 y1 y2 y3 y4 y5, LeO (impl_FirstImbalance.l0 k y0 y1 y2 y3 y4 y5) (impl_FirstImbalance.l0 (k + 1) y0 y1 y2 y3 y4 y5))
  | 0 => ⟨fun _ _ _ _ r h => by simp [impl_FirstImbalance.j0] at h, fun _ _ _ _ _ _ r h => by simp [impl_FirstImbalance.l0] at h⟩
  | k + 1 => by
    obtain ⟨ih0, ih1⟩ := impl_FirstImbalance.mono_l k
    refine ⟨?_, ?_⟩
    · intro y0 y1 y2 y3
      unfold impl_FirstImbalance.j0
      repeat' first
      | (with_reducible exact ih0 _ _ _ _)
      | (with_reducible exact ih1 _ _ _ _ _ _)
      | (with_reducible exact impl_areAccountRows.mono _ _)
      | (with_reducible exact LeO.refl _)
      | (with_reducible exact LeO.none _)
      | (with_reducible refine LeO.ite ?_ ?_)
      | (with_reducible refine LeO.bind ?_ (fun _ => ?_))
      | exact ih0 _ _ _ _
      | exact ih1 _ _ _ _ _ _
      | exact impl_areAccountRows.mono _ _
      | exact LeO.none _
      | refine LeO.ite ?_ ?_
      | refine LeO.bind ?_ (fun _ => ?_)
    · intro y0 y1 y2 y3 y4 y5
      unfold impl_FirstImbalance.l0
      repeat' first
      | (with_reducible exact ih0 _ _ _ _)
      | (with_reducible exact ih1 _ _ _ _ _ _)
      | (with_reducible exact impl_areAccountRows.mono _ _)
      | (with_reducible exact LeO.refl _)
      | (with_reducible exact LeO.none _)
      | (with_reducible refine LeO.ite ?_ ?_)
      | (with_reducible refine LeO.bind ?_ (fun _ => ?_))
      | exact ih0 _ _ _ _
      | exact ih1 _ _ _ _ _ _
      | exact impl_areAccountRows.mono _ _
      | exact LeO.none _
      | refine LeO.ite ?_ ?_
      | refine LeO.bind ?_ (fun _ => ?_)
theorem impl_FirstImbalance.mono : ∀ a0 a1 a2 k, LeO (impl_FirstImbalance.f k a0 a1 a2) (impl_FirstImbalance.f (k + 1) a0 a1 a2) := by
  intro a0 a1 a2 k
  obtain ⟨ih0, ih1⟩ := impl_FirstImbalance.mono_l k
  unfold impl_FirstImbalance.f
  repeat' first
      | (with_reducible exact ih0 _ _ _ _)
      | (with_reducible exact ih1 _ _ _ _ _ _)
      | (with_reducible exact impl_areAccountRows.mono _ _)
      | (with_reducible exact LeO.refl _)
      | (with_reducible exact LeO.none _)
      | (with_reducible refine LeO.ite ?_ ?_)
      | (with_reducible refine LeO.bind ?_ (fun _ => ?_))
      | exact ih0 _ _ _ _
      | exact ih1 _ _ _ _ _ _
      | exact impl_areAccountRows.mono _ _
      | exact LeO.none _
      | refine LeO.ite ?_ ?_
      | refine LeO.bind ?_ (fun _ => ?_)
set_option maxHeartbeats 8000000 in
set_option maxRecDepth 100000 in
theorem impl_FirstImbalance.calls (k : Nat) (a0 : Int) (a1 : Int) (A2 : Option Addr) (c2 : Nat) (l2 : List (List Int)) (r1 : Int) (r2 : Bool) (w : World) (hr2 : Kd.C (Kd.slice 3 (Kd.int .i64)) w A2 l2.length l2) (hc2 : l2.length ≤ c2) (h : impl_FirstImbalance.f k a0 a1 l2 = some (r1, r2)) :
    Calls Try.prog 56 #[.int .i64 a0, .int .i64 a1, .slice A2 l2.length c2] w fun e w' => e = .returned (.tuple #[.int .i64 r1, .bool r2]) ∧ Drawn0 w w' := by
  have HR2 := Aside0.mk hr2
  have HC2 := Aside0.mk hc2
  clear hr2 hc2
  have H : (if a0 < 0 then (impl_FirstImbalance.j0 k a0 a1 l2 true) else (if a0 > 100000000000 then (impl_FirstImbalance.j0 k a0 a1 l2 true) else (if a1 < 0 then (impl_FirstImbalance.j0 k a0 a1 l2 true) else (if a1 > 100000000000 then (impl_FirstImbalance.j0 k a0 a1 l2 true) else ((impl_areAccountRows.f k l2).bind fun t159 => (impl_FirstImbalance.j0 k a0 a1 l2 (!t159))))))) = some (r1, r2) := h
  clear h
  have HC4 := Aside0.mk H
  clear H
  go_enter Try.func56, Try.ntmps56
  go_upto_region 1 with (fail)
  repeat (go_quiet (fail); go_upto_region 1 with (fail))
  go_cut [28] (fun v28 wc => ∃ (kq : Nat) (x28_3 : Bool), v28 = .bool x28_3 ∧ Aside0 (impl_FirstImbalance.j0 kq a0 a1 l2 x28_3 = some (r1, r2)) ∧ Aside0 (kq ≤ k) ∧ Drawn0 w wc)
  case first =>
    have H := HC4.out
    clear HC4
    by_cases c5 : a0 < 0
    · rw [if_pos c5] at H
      have c5b0 : decide (a0 < 0) = true := decide_eq_true c5
      clear c5
      (first | rw [c5b0] | (simp only [i64_w, i32_w]; rw [c5b0]) | skip)
      have H' := Aside0.mk H
      clear H
      go_wp2
      repeat (go_quiet (fail); try go_wp2)
      go_meet
      case rel => exact ⟨_, (true), (by first | rfl | (simp; done) | (simp [*]; done)), H', ⟨by first | omega | exact Nat.le_refl _⟩, by repeat (first | exact Drawn0.refl _ | apply Drawn0.step)⟩
    · rw [if_neg c5] at H
      have c5b0 : decide (a0 < 0) = false := decide_eq_false c5
      clear c5
      (first | rw [c5b0] | (simp only [i64_w, i32_w]; rw [c5b0]) | skip)
      by_cases c6 : a0 > 100000000000
      · rw [if_pos c6] at H
        have c6b0 : decide (100000000000 < a0) = true := decide_eq_true c6
        clear c6
        have H' := Aside0.mk H
        clear H
        go_wp2
        repeat (go_quiet (fail); try go_wp2)
        go_meet
        case rel => exact ⟨_, (true), (by first | rfl | (simp; done) | (simp [*]; done)), H', ⟨by first | omega | exact Nat.le_refl _⟩, by repeat (first | exact Drawn0.refl _ | apply Drawn0.step)⟩
      · rw [if_neg c6] at H
        have c6b0 : decide (100000000000 < a0) = false := decide_eq_false c6
        clear c6
        by_cases c7 : a1 < 0
        · rw [if_pos c7] at H
          have c7b0 : decide (a1 < 0) = true := decide_eq_true c7
          clear c7
          have H' := Aside0.mk H
          clear H
          go_wp2
          repeat (go_quiet (fail); try go_wp2)
          go_meet
          case rel => exact ⟨_, (true), (by first | rfl | (simp; done) | (simp [*]; done)), H', ⟨by first | omega | exact Nat.le_refl _⟩, by repeat (first | exact Drawn0.refl _ | apply Drawn0.step)⟩
        · rw [if_neg c7] at H
          have c7b0 : decide (a1 < 0) = false := decide_eq_false c7
          clear c7
          by_cases c8 : a1 > 100000000000
          · rw [if_pos c8] at H
            have c8b0 : decide (100000000000 < a1) = true := decide_eq_true c8
            clear c8
            have H' := Aside0.mk H
            clear H
            go_wp2
            repeat (go_quiet (fail); try go_wp2)
            go_meet
            case rel => exact ⟨_, (true), (by first | rfl | (simp; done) | (simp [*]; done)), H', ⟨by first | omega | exact Nat.le_refl _⟩, by repeat (first | exact Drawn0.refl _ | apply Drawn0.step)⟩
          · rw [if_neg c8] at H
            have c8b0 : decide (100000000000 < a1) = false := decide_eq_false c8
            clear c8
            replace H := Option.bind_eq_some_iff.mp H
            obtain ⟨t159, A90, H⟩ := H
            replace H : (impl_FirstImbalance.j0 k a0 a1 l2 (!t159)) = some (r1, r2) := H
            have A9 := Aside0.mk A90
            clear A90
            have H' := Aside0.mk H
            clear H
            go_wp2_with (first | (go_at_call 99; (with_reducible refine (impl_areAccountRows.calls k _ _ l2 t159 _ ?side1 ?side2 A9.out).mono ?_); (case side1 => repeat (first | exact HR2.out | (with_reducible refine Kd.C_alloc ?_ _) | (with_reducible refine Kd.C_drewN ?_ _) | (with_reducible refine Kd.C_drew ?_))); (case side2 => exact HC2.out); rintro e w' ⟨rfl, ⟨nd, rfl⟩⟩; (try first | exact ⟨rfl, _, World.drewN_drewN _ _ _⟩ | exact ⟨rfl, _, Eq.trans (World.drewN_drewN _ _ _) (congrArg (World.drewN _) (Nat.add_assoc _ _ _))⟩)))
            repeat (go_quiet (first | (go_at_call 99; (with_reducible refine (impl_areAccountRows.calls k _ _ l2 t159 _ ?side1 ?side2 A9.out).mono ?_); (case side1 => repeat (first | exact HR2.out | (with_reducible refine Kd.C_alloc ?_ _) | (with_reducible refine Kd.C_drewN ?_ _) | (with_reducible refine Kd.C_drew ?_))); (case side2 => exact HC2.out); rintro e w' ⟨rfl, ⟨nd, rfl⟩⟩; (try first | exact ⟨rfl, _, World.drewN_drewN _ _ _⟩ | exact ⟨rfl, _, Eq.trans (World.drewN_drewN _ _ _) (congrArg (World.drewN _) (Nat.add_assoc _ _ _))⟩))); try go_wp2_with (first | (go_at_call 99; (with_reducible refine (impl_areAccountRows.calls k _ _ l2 t159 _ ?side1 ?side2 A9.out).mono ?_); (case side1 => repeat (first | exact HR2.out | (with_reducible refine Kd.C_alloc ?_ _) | (with_reducible refine Kd.C_drewN ?_ _) | (with_reducible refine Kd.C_drew ?_))); (case side2 => exact HC2.out); rintro e w' ⟨rfl, ⟨nd, rfl⟩⟩; (try first | exact ⟨rfl, _, World.drewN_drewN _ _ _⟩ | exact ⟨rfl, _, Eq.trans (World.drewN_drewN _ _ _) (congrArg (World.drewN _) (Nat.add_assoc _ _ _))⟩))))
            go_meet
            case rel => exact ⟨_, (!t159), (by first | rfl | (simp; done) | (simp [*]; done)), H', ⟨by first | omega | exact Nat.le_refl _⟩, by repeat (first | exact Drawn0.refl _ | apply Drawn0.step)⟩
  case rest =>
    clear HC4
    try clear c2
    try clear p2
    try clear c5
    try clear c5b0
    try clear c6
    try clear c6b0
    try clear c7
    try clear c7b0
    try clear c8
    try clear c8b0
    obtain ⟨kq, x28_3, rfl, HA, HJ3, ⟨mc3, rfl⟩⟩ := hcut
    cases kq with
    | zero => exact absurd HA.out (by simp [impl_FirstImbalance.j0])
    | succ kj3 =>
      have H := HA.out
      clear HA
      simp only [impl_FirstImbalance.j0] at H
      by_cases c10 : x28_3 = true
      · subst c10
        have H1 : (some (0, false)) = some (r1, r2) := by rw [if_pos rfl] at H; exact H
        clear H
        have H := H1
        clear H1
        simp only [Option.some.injEq, Prod.mk.injEq] at H
        obtain ⟨rfl, rfl⟩ := H
        go_wp2
        repeat (go_quiet (fail); try go_wp2)
        go_ret2
        exact ⟨by first | rfl | (simp; done) | (simp [*]; done), by repeat (first | exact Drawn0.refl _ | apply Drawn0.step)⟩
      · replace c10 := Bool.eq_false_iff.mpr c10
        subst c10
        have H1 : (impl_FirstImbalance.l0 kj3 a0 a1 l2 l2 (l2.length : Int) 0) = some (r1, r2) := by rw [if_neg (show ¬ (false = true) by decide)] at H; exact H
        clear H
        have H := H1
        clear H1
        have H' := Aside0.mk H
        clear H
        go_wp2
        repeat (go_quiet (fail); try go_wp2)
        go_loopg [0, 1, 31] kj3 (fun kq v0 v1 v31 w' => ∃ (x0_2 : Int) (x1_2 : Int) (x31_2 : Int), v0 = .int .i64 x0_2 ∧ v1 = .int .i64 x1_2 ∧ v31 = .int .i64 x31_2 ∧ Aside0 (impl_FirstImbalance.l0 kq x0_2 x1_2 l2 l2 (l2.length : Int) x31_2 = some (r1, r2)) ∧ Aside0 (kq ≤ kj3) ∧ Drawn0 w w')
        case atStart => exact ⟨(a0), (a1), (0), (by first | rfl | (simp; done) | (simp [*]; done)), (by first | rfl | (simp; done) | (simp [*]; done)), (by first | rfl | (simp; done) | (simp [*]; done)), H', ⟨Nat.le_refl _⟩, by repeat (first | exact Drawn0.refl _ | apply Drawn0.step)⟩
        case round =>
          clear H'
          try clear c1
          try clear c2
          try clear p2
          try clear c3
          try clear c5
          try clear c5b0
          try clear c6
          try clear c6b0
          try clear c7
          try clear c7b0
          try clear c8
          try clear c8b0
          try clear c10
          try clear p2
          obtain ⟨x0_2, x1_2, x31_2, rfl, rfl, rfl, HA, HK2, ⟨m2, rfl⟩⟩ := hrel
          cases gk with
          | zero => exact absurd HA.out (by simp [impl_FirstImbalance.l0])
          | succ k2 =>
            have H := HA.out
            clear HA
            simp only [impl_FirstImbalance.l0] at H
            by_cases c11 : x31_2 < (l2.length : Int)
            · rw [if_pos c11] at H
              have c11b0 : decide (x31_2 < (l2.length : Int)) = true := decide_eq_true c11
              clear c11
              by_cases c12 : 0 ≤ x31_2
              · rw [if_pos c12] at H
                have c12b0 : decide (0 ≤ x31_2) = true := decide_eq_true c12
                clear c12
                by_cases c13 : x31_2 < (l2.length : Int)
                · rw [if_pos c13] at H
                  have c13b0 : decide (x31_2 < (l2.length : Int)) = true := decide_eq_true c13
                  clear c13
                  by_cases c14 : 4 < ((rd_L1 l2 x31_2).length : Int)
                  · rw [if_pos c14] at H
                    have c14b0 : decide (4 < ((rd_L1 l2 x31_2).length : Int)) = true := decide_eq_true c14
                    have c14b1 : decide (4 < (rd_L1 l2 x31_2).length) = true := decide_eq_true (by omega)
                    clear c14
                    by_cases c15 : 8 < ((rd_L1 l2 x31_2).length : Int)
                    · rw [if_pos c15] at H
                      have c15b0 : decide (8 < ((rd_L1 l2 x31_2).length : Int)) = true := decide_eq_true c15
                      have c15b1 : decide (8 < (rd_L1 l2 x31_2).length) = true := decide_eq_true (by omega)
                      clear c15
                      by_cases c16 : 5 < ((rd_L1 l2 x31_2).length : Int)
                      · rw [if_pos c16] at H
                        have c16b0 : decide (5 < ((rd_L1 l2 x31_2).length : Int)) = true := decide_eq_true c16
                        have c16b1 : decide (5 < (rd_L1 l2 x31_2).length) = true := decide_eq_true (by omega)
                        clear c16
                        by_cases c17 : 9 < ((rd_L1 l2 x31_2).length : Int)
                        · rw [if_pos c17] at H
                          have c17b0 : decide (9 < ((rd_L1 l2 x31_2).length : Int)) = true := decide_eq_true c17
                          have c17b1 : decide (9 < (rd_L1 l2 x31_2).length) = true := decide_eq_true (by omega)
                          clear c17
                          replace H := Option.bind_eq_some_iff.mp H
                          obtain ⟨t165, A180, H⟩ := H
                          replace H : (if t165 = true then (if 10 < ((rd_L1 l2 x31_2).length : Int) then (if (rd (rd_L1 l2 x31_2) 10) = (wrap64 (x0_2 + (wrap64 ((rd (rd_L1 l2 x31_2) 4) - (rd (rd_L1 l2 x31_2) 8))))) then (if 11 < ((rd_L1 l2 x31_2).length : Int) then (if (rd (rd_L1 l2 x31_2) 11) = (wrap64 (x1_2 + (wrap64 ((rd (rd_L1 l2 x31_2) 5) - (rd (rd_L1 l2 x31_2) 9))))) then (impl_FirstImbalance.l0 k2 (wrap64 (x0_2 + (wrap64 ((rd (rd_L1 l2 x31_2) 4) - (rd (rd_L1 l2 x31_2) 8))))) (wrap64 (x1_2 + (wrap64 ((rd (rd_L1 l2 x31_2) 5) - (rd (rd_L1 l2 x31_2) 9))))) l2 l2 (l2.length : Int) (wrap64 (x31_2 + 1))) else (some (x31_2, true))) else (none)) else (some (x31_2, true))) else (none)) else (some (x31_2, true))) = some (r1, r2) := H
                          have A18 := Aside0.mk A180
                          clear A180
                          by_cases c19 : t165 = true
                          · subst c19
                            have H1 : (if 10 < ((rd_L1 l2 x31_2).length : Int) then (if (rd (rd_L1 l2 x31_2) 10) = (wrap64 (x0_2 + (wrap64 ((rd (rd_L1 l2 x31_2) 4) - (rd (rd_L1 l2 x31_2) 8))))) then (if 11 < ((rd_L1 l2 x31_2).length : Int) then (if (rd (rd_L1 l2 x31_2) 11) = (wrap64 (x1_2 + (wrap64 ((rd (rd_L1 l2 x31_2) 5) - (rd (rd_L1 l2 x31_2) 9))))) then (impl_FirstImbalance.l0 k2 (wrap64 (x0_2 + (wrap64 ((rd (rd_L1 l2 x31_2) 4) - (rd (rd_L1 l2 x31_2) 8))))) (wrap64 (x1_2 + (wrap64 ((rd (rd_L1 l2 x31_2) 5) - (rd (rd_L1 l2 x31_2) 9))))) l2 l2 (l2.length : Int) (wrap64 (x31_2 + 1))) else (some (x31_2, true))) else (none)) else (some (x31_2, true))) else (none)) = some (r1, r2) := by rw [if_pos rfl] at H; exact H
                            clear H
                            have H := H1
                            clear H1
                            by_cases c20 : 10 < ((rd_L1 l2 x31_2).length : Int)
                            · rw [if_pos c20] at H
                              have c20b0 : decide (10 < ((rd_L1 l2 x31_2).length : Int)) = true := decide_eq_true c20
                              have c20b1 : decide (10 < (rd_L1 l2 x31_2).length) = true := decide_eq_true (by omega)
                              clear c20
                              by_cases c21 : (rd (rd_L1 l2 x31_2) 10) = (wrap64 (x0_2 + (wrap64 ((rd (rd_L1 l2 x31_2) 4) - (rd (rd_L1 l2 x31_2) 8)))))
                              · rw [if_pos c21] at H
                                have c21b0 : ((rd (rd_L1 l2 x31_2) 10) == (wrap64 (x0_2 + (wrap64 ((rd (rd_L1 l2 x31_2) 4) - (rd (rd_L1 l2 x31_2) 8)))))) = true := beq_iff_eq.mpr c21
                                have c21b1 : ((rd (rd_L1 l2 x31_2) 10) != (wrap64 (x0_2 + (wrap64 ((rd (rd_L1 l2 x31_2) 4) - (rd (rd_L1 l2 x31_2) 8)))))) = false := bne_eq_false_iff_eq.mpr c21
                                clear c21
                                by_cases c22 : 11 < ((rd_L1 l2 x31_2).length : Int)
                                · rw [if_pos c22] at H
                                  have c22b0 : decide (11 < ((rd_L1 l2 x31_2).length : Int)) = true := decide_eq_true c22
                                  have c22b1 : decide (11 < (rd_L1 l2 x31_2).length) = true := decide_eq_true (by omega)
                                  clear c22
                                  by_cases c23 : (rd (rd_L1 l2 x31_2) 11) = (wrap64 (x1_2 + (wrap64 ((rd (rd_L1 l2 x31_2) 5) - (rd (rd_L1 l2 x31_2) 9)))))
                                  · rw [if_pos c23] at H
                                    have c23b0 : ((rd (rd_L1 l2 x31_2) 11) == (wrap64 (x1_2 + (wrap64 ((rd (rd_L1 l2 x31_2) 5) - (rd (rd_L1 l2 x31_2) 9)))))) = true := beq_iff_eq.mpr c23
                                    have c23b1 : ((rd (rd_L1 l2 x31_2) 11) != (wrap64 (x1_2 + (wrap64 ((rd (rd_L1 l2 x31_2) 5) - (rd (rd_L1 l2 x31_2) 9)))))) = false := bne_eq_false_iff_eq.mpr c23
                                    clear c23
                                    have H' := Aside0.mk H
                                    clear H
                                    have p160 : 0 ≤ (x31_2 : Int) := of_decide_eq_true (by first | (with_reducible assumption) | assumption)
                                    have q160 : x31_2 < (l2.length : Int) := of_decide_eq_true (by first | (with_reducible assumption) | assumption)
                                    obtain ⟨ad160, A160_0, c160_0, e160, hx160_0, hl160_0, hi160_0⟩ := at_L1 HR2.out x31_2 p160 q160
                                    cases e160
                                    have HR160_0 := Aside0.mk hi160_0
                                    have HC160_0 := Aside0.mk hl160_0
                                    clear hi160_0 hl160_0
                                    replace p160 := eq_true p160
                                    replace q160 := eq_true q160
                                    have p161 : 0 ≤ (4 : Int) := (by omega)
                                    have q161 : 4 < ((rd_L1 l2 x31_2).length : Int) := of_decide_eq_true (by first | (with_reducible assumption) | assumption)
                                    obtain ⟨ad161, e161, hx161_0⟩ := Kd.at_int HR160_0.out 4 p161 q161
                                    cases e161
                                    (try simp only [show (4 : Int).toNat = 4 from rfl, Nat.reduceMul, Nat.reduceEqDiff, Go.Addr.add, ↓reduceIte] at hx161_0)
                                    have qi161 : (4 < (rd_L1 l2 x31_2).length) = True := eq_true (by omega)
                                    (try rw [show ((4 : Int)).toNat = 4 from rfl] at hx161_0)
                                    replace p161 := eq_true p161
                                    replace q161 := eq_true q161
                                    have p162 : 0 ≤ (8 : Int) := (by omega)
                                    have q162 : 8 < ((rd_L1 l2 x31_2).length : Int) := of_decide_eq_true (by first | (with_reducible assumption) | assumption)
                                    obtain ⟨ad162, e162, hx162_0⟩ := Kd.at_int HR160_0.out 8 p162 q162
                                    obtain rfl : ad161 = ad162 := (by injection e162)
                                    (try simp only [show (8 : Int).toNat = 8 from rfl, Nat.reduceMul, Nat.reduceEqDiff, Go.Addr.add, ↓reduceIte] at hx162_0)
                                    have qi162 : (8 < (rd_L1 l2 x31_2).length) = True := eq_true (by omega)
                                    (try rw [show ((8 : Int)).toNat = 8 from rfl] at hx162_0)
                                    replace p162 := eq_true p162
                                    replace q162 := eq_true q162
                                    have p163 : 0 ≤ (5 : Int) := (by omega)
                                    have q163 : 5 < ((rd_L1 l2 x31_2).length : Int) := of_decide_eq_true (by first | (with_reducible assumption) | assumption)
                                    obtain ⟨ad163, e163, hx163_0⟩ := Kd.at_int HR160_0.out 5 p163 q163
                                    obtain rfl : ad161 = ad163 := (by injection e163)
                                    (try simp only [show (5 : Int).toNat = 5 from rfl, Nat.reduceMul, Nat.reduceEqDiff, Go.Addr.add, ↓reduceIte] at hx163_0)
                                    have qi163 : (5 < (rd_L1 l2 x31_2).length) = True := eq_true (by omega)
                                    (try rw [show ((5 : Int)).toNat = 5 from rfl] at hx163_0)
                                    replace p163 := eq_true p163
                                    replace q163 := eq_true q163
                                    have p164 : 0 ≤ (9 : Int) := (by omega)
                                    have q164 : 9 < ((rd_L1 l2 x31_2).length : Int) := of_decide_eq_true (by first | (with_reducible assumption) | assumption)
                                    obtain ⟨ad164, e164, hx164_0⟩ := Kd.at_int HR160_0.out 9 p164 q164
                                    obtain rfl : ad161 = ad164 := (by injection e164)
                                    (try simp only [show (9 : Int).toNat = 9 from rfl, Nat.reduceMul, Nat.reduceEqDiff, Go.Addr.add, ↓reduceIte] at hx164_0)
                                    have qi164 : (9 < (rd_L1 l2 x31_2).length) = True := eq_true (by omega)
                                    (try rw [show ((9 : Int)).toNat = 9 from rfl] at hx164_0)
                                    replace p164 := eq_true p164
                                    replace q164 := eq_true q164
                                    go_wp2_with (first | (go_at_call 109; (with_reducible refine (impl_rowBalances.calls _ _ (rd_L1 l2 x31_2) true _ ?side1 ?side2 A18.out).mono ?_); (case side1 => repeat (first | exact HR160_0.out | (with_reducible refine Kd.C_alloc ?_ _) | (with_reducible refine Kd.C_drewN ?_ _) | (with_reducible refine Kd.C_drew ?_))); (case side2 => exact HC160_0.out); rintro e w' ⟨rfl, ⟨nd, rfl⟩⟩; (try first | exact ⟨rfl, _, World.drewN_drewN _ _ _⟩ | exact ⟨rfl, _, Eq.trans (World.drewN_drewN _ _ _) (congrArg (World.drewN _) (Nat.add_assoc _ _ _))⟩); have p166 : 0 ≤ (10 : Int) := (by omega); have q166 : 10 < ((rd_L1 l2 x31_2).length : Int) := of_decide_eq_true (by first | (with_reducible assumption) | assumption); obtain ⟨ad166, e166, hx166_0⟩ := Kd.at_int HR160_0.out 10 p166 q166; obtain rfl : ad161 = ad166 := (by injection e166); (try simp only [show (10 : Int).toNat = 10 from rfl, Nat.reduceMul, Nat.reduceEqDiff, Go.Addr.add, ↓reduceIte] at hx166_0); have qi166 : (10 < (rd_L1 l2 x31_2).length) = True := eq_true (by omega); (try rw [show ((10 : Int)).toNat = 10 from rfl] at hx166_0); replace p166 := eq_true p166; replace q166 := eq_true q166; have p167 : 0 ≤ (11 : Int) := (by omega); have q167 : 11 < ((rd_L1 l2 x31_2).length : Int) := of_decide_eq_true (by first | (with_reducible assumption) | assumption); obtain ⟨ad167, e167, hx167_0⟩ := Kd.at_int HR160_0.out 11 p167 q167; obtain rfl : ad161 = ad167 := (by injection e167); (try simp only [show (11 : Int).toNat = 11 from rfl, Nat.reduceMul, Nat.reduceEqDiff, Go.Addr.add, ↓reduceIte] at hx167_0); have qi167 : (11 < (rd_L1 l2 x31_2).length) = True := eq_true (by omega); (try rw [show ((11 : Int)).toNat = 11 from rfl] at hx167_0); replace p167 := eq_true p167; replace q167 := eq_true q167))
                                    repeat (go_quiet (first | (go_at_call 109; (with_reducible refine (impl_rowBalances.calls _ _ (rd_L1 l2 x31_2) true _ ?side1 ?side2 A18.out).mono ?_); (case side1 => repeat (first | exact HR160_0.out | (with_reducible refine Kd.C_alloc ?_ _) | (with_reducible refine Kd.C_drewN ?_ _) | (with_reducible refine Kd.C_drew ?_))); (case side2 => exact HC160_0.out); rintro e w' ⟨rfl, ⟨nd, rfl⟩⟩; (try first | exact ⟨rfl, _, World.drewN_drewN _ _ _⟩ | exact ⟨rfl, _, Eq.trans (World.drewN_drewN _ _ _) (congrArg (World.drewN _) (Nat.add_assoc _ _ _))⟩); have p166 : 0 ≤ (10 : Int) := (by omega); have q166 : 10 < ((rd_L1 l2 x31_2).length : Int) := of_decide_eq_true (by first | (with_reducible assumption) | assumption); obtain ⟨ad166, e166, hx166_0⟩ := Kd.at_int HR160_0.out 10 p166 q166; obtain rfl : ad161 = ad166 := (by injection e166); (try simp only [show (10 : Int).toNat = 10 from rfl, Nat.reduceMul, Nat.reduceEqDiff, Go.Addr.add, ↓reduceIte] at hx166_0); have qi166 : (10 < (rd_L1 l2 x31_2).length) = True := eq_true (by omega); (try rw [show ((10 : Int)).toNat = 10 from rfl] at hx166_0); replace p166 := eq_true p166; replace q166 := eq_true q166; have p167 : 0 ≤ (11 : Int) := (by omega); have q167 : 11 < ((rd_L1 l2 x31_2).length : Int) := of_decide_eq_true (by first | (with_reducible assumption) | assumption); obtain ⟨ad167, e167, hx167_0⟩ := Kd.at_int HR160_0.out 11 p167 q167; obtain rfl : ad161 = ad167 := (by injection e167); (try simp only [show (11 : Int).toNat = 11 from rfl, Nat.reduceMul, Nat.reduceEqDiff, Go.Addr.add, ↓reduceIte] at hx167_0); have qi167 : (11 < (rd_L1 l2 x31_2).length) = True := eq_true (by omega); (try rw [show ((11 : Int)).toNat = 11 from rfl] at hx167_0); replace p167 := eq_true p167; replace q167 := eq_true q167)); try go_wp2_with (first | (go_at_call 109; (with_reducible refine (impl_rowBalances.calls _ _ (rd_L1 l2 x31_2) true _ ?side1 ?side2 A18.out).mono ?_); (case side1 => repeat (first | exact HR160_0.out | (with_reducible refine Kd.C_alloc ?_ _) | (with_reducible refine Kd.C_drewN ?_ _) | (with_reducible refine Kd.C_drew ?_))); (case side2 => exact HC160_0.out); rintro e w' ⟨rfl, ⟨nd, rfl⟩⟩; (try first | exact ⟨rfl, _, World.drewN_drewN _ _ _⟩ | exact ⟨rfl, _, Eq.trans (World.drewN_drewN _ _ _) (congrArg (World.drewN _) (Nat.add_assoc _ _ _))⟩); have p166 : 0 ≤ (10 : Int) := (by omega); have q166 : 10 < ((rd_L1 l2 x31_2).length : Int) := of_decide_eq_true (by first | (with_reducible assumption) | assumption); obtain ⟨ad166, e166, hx166_0⟩ := Kd.at_int HR160_0.out 10 p166 q166; obtain rfl : ad161 = ad166 := (by injection e166); (try simp only [show (10 : Int).toNat = 10 from rfl, Nat.reduceMul, Nat.reduceEqDiff, Go.Addr.add, ↓reduceIte] at hx166_0); have qi166 : (10 < (rd_L1 l2 x31_2).length) = True := eq_true (by omega); (try rw [show ((10 : Int)).toNat = 10 from rfl] at hx166_0); replace p166 := eq_true p166; replace q166 := eq_true q166; have p167 : 0 ≤ (11 : Int) := (by omega); have q167 : 11 < ((rd_L1 l2 x31_2).length : Int) := of_decide_eq_true (by first | (with_reducible assumption) | assumption); obtain ⟨ad167, e167, hx167_0⟩ := Kd.at_int HR160_0.out 11 p167 q167; obtain rfl : ad161 = ad167 := (by injection e167); (try simp only [show (11 : Int).toNat = 11 from rfl, Nat.reduceMul, Nat.reduceEqDiff, Go.Addr.add, ↓reduceIte] at hx167_0); have qi167 : (11 < (rd_L1 l2 x31_2).length) = True := eq_true (by omega); (try rw [show ((11 : Int)).toNat = 11 from rfl] at hx167_0); replace p167 := eq_true p167; replace q167 := eq_true q167)))
                                    go_roundg k2
                                    case measure => have := HJ3.out; have := HK2.out; omega
                                    case rel => exact ⟨(wrap64 (x0_2 + (wrap64 ((rd (rd_L1 l2 x31_2) 4) - (rd (rd_L1 l2 x31_2) 8))))), (wrap64 (x1_2 + (wrap64 ((rd (rd_L1 l2 x31_2) 5) - (rd (rd_L1 l2 x31_2) 9))))), (wrap64 (x31_2 + 1)), (by first | rfl | (simp; done) | (simp [*]; done)), (by first | rfl | (simp; done) | (simp [*]; done)), (by first | rfl | (simp; done) | (simp [*]; done)), H', ⟨by have := HJ3.out; have := HK2.out; omega⟩, by repeat (first | exact Drawn0.refl _ | apply Drawn0.step)⟩
                                  · rw [if_neg c23] at H
                                    have c23b0 : ((rd (rd_L1 l2 x31_2) 11) == (wrap64 (x1_2 + (wrap64 ((rd (rd_L1 l2 x31_2) 5) - (rd (rd_L1 l2 x31_2) 9)))))) = false := beq_eq_false_iff_ne.mpr c23
                                    have c23b1 : ((rd (rd_L1 l2 x31_2) 11) != (wrap64 (x1_2 + (wrap64 ((rd (rd_L1 l2 x31_2) 5) - (rd (rd_L1 l2 x31_2) 9)))))) = true := bne_iff_ne.mpr c23
                                    simp only [Option.some.injEq, Prod.mk.injEq] at H
                                    obtain ⟨rfl, rfl⟩ := H
                                    have p160 : 0 ≤ (x31_2 : Int) := of_decide_eq_true (by first | (with_reducible assumption) | assumption)
                                    have q160 : x31_2 < (l2.length : Int) := of_decide_eq_true (by first | (with_reducible assumption) | assumption)
                                    obtain ⟨ad160, A160_0, c160_0, e160, hx160_0, hl160_0, hi160_0⟩ := at_L1 HR2.out x31_2 p160 q160
                                    cases e160
                                    have HR160_0 := Aside0.mk hi160_0
                                    have HC160_0 := Aside0.mk hl160_0
                                    clear hi160_0 hl160_0
                                    replace p160 := eq_true p160
                                    replace q160 := eq_true q160
                                    have p161 : 0 ≤ (4 : Int) := (by omega)
                                    have q161 : 4 < ((rd_L1 l2 x31_2).length : Int) := of_decide_eq_true (by first | (with_reducible assumption) | assumption)
                                    obtain ⟨ad161, e161, hx161_0⟩ := Kd.at_int HR160_0.out 4 p161 q161
                                    cases e161
                                    (try simp only [show (4 : Int).toNat = 4 from rfl, Nat.reduceMul, Nat.reduceEqDiff, Go.Addr.add, ↓reduceIte] at hx161_0)
                                    have qi161 : (4 < (rd_L1 l2 x31_2).length) = True := eq_true (by omega)
                                    (try rw [show ((4 : Int)).toNat = 4 from rfl] at hx161_0)
                                    replace p161 := eq_true p161
                                    replace q161 := eq_true q161
                                    have p162 : 0 ≤ (8 : Int) := (by omega)
                                    have q162 : 8 < ((rd_L1 l2 x31_2).length : Int) := of_decide_eq_true (by first | (with_reducible assumption) | assumption)
                                    obtain ⟨ad162, e162, hx162_0⟩ := Kd.at_int HR160_0.out 8 p162 q162
                                    obtain rfl : ad161 = ad162 := (by injection e162)
                                    (try simp only [show (8 : Int).toNat = 8 from rfl, Nat.reduceMul, Nat.reduceEqDiff, Go.Addr.add, ↓reduceIte] at hx162_0)
                                    have qi162 : (8 < (rd_L1 l2 x31_2).length) = True := eq_true (by omega)
                                    (try rw [show ((8 : Int)).toNat = 8 from rfl] at hx162_0)
                                    replace p162 := eq_true p162
                                    replace q162 := eq_true q162
                                    have p163 : 0 ≤ (5 : Int) := (by omega)
                                    have q163 : 5 < ((rd_L1 l2 x31_2).length : Int) := of_decide_eq_true (by first | (with_reducible assumption) | assumption)
                                    obtain ⟨ad163, e163, hx163_0⟩ := Kd.at_int HR160_0.out 5 p163 q163
                                    obtain rfl : ad161 = ad163 := (by injection e163)
                                    (try simp only [show (5 : Int).toNat = 5 from rfl, Nat.reduceMul, Nat.reduceEqDiff, Go.Addr.add, ↓reduceIte] at hx163_0)
                                    have qi163 : (5 < (rd_L1 l2 x31_2).length) = True := eq_true (by omega)
                                    (try rw [show ((5 : Int)).toNat = 5 from rfl] at hx163_0)
                                    replace p163 := eq_true p163
                                    replace q163 := eq_true q163
                                    have p164 : 0 ≤ (9 : Int) := (by omega)
                                    have q164 : 9 < ((rd_L1 l2 x31_2).length : Int) := of_decide_eq_true (by first | (with_reducible assumption) | assumption)
                                    obtain ⟨ad164, e164, hx164_0⟩ := Kd.at_int HR160_0.out 9 p164 q164
                                    obtain rfl : ad161 = ad164 := (by injection e164)
                                    (try simp only [show (9 : Int).toNat = 9 from rfl, Nat.reduceMul, Nat.reduceEqDiff, Go.Addr.add, ↓reduceIte] at hx164_0)
                                    have qi164 : (9 < (rd_L1 l2 x31_2).length) = True := eq_true (by omega)
                                    (try rw [show ((9 : Int)).toNat = 9 from rfl] at hx164_0)
                                    replace p164 := eq_true p164
                                    replace q164 := eq_true q164
                                    go_wp2_with (first | (go_at_call 109; (with_reducible refine (impl_rowBalances.calls _ _ (rd_L1 l2 x31_2) true _ ?side1 ?side2 A18.out).mono ?_); (case side1 => repeat (first | exact HR160_0.out | (with_reducible refine Kd.C_alloc ?_ _) | (with_reducible refine Kd.C_drewN ?_ _) | (with_reducible refine Kd.C_drew ?_))); (case side2 => exact HC160_0.out); rintro e w' ⟨rfl, ⟨nd, rfl⟩⟩; (try first | exact ⟨rfl, _, World.drewN_drewN _ _ _⟩ | exact ⟨rfl, _, Eq.trans (World.drewN_drewN _ _ _) (congrArg (World.drewN _) (Nat.add_assoc _ _ _))⟩); have p166 : 0 ≤ (10 : Int) := (by omega); have q166 : 10 < ((rd_L1 l2 x31_2).length : Int) := of_decide_eq_true (by first | (with_reducible assumption) | assumption); obtain ⟨ad166, e166, hx166_0⟩ := Kd.at_int HR160_0.out 10 p166 q166; obtain rfl : ad161 = ad166 := (by injection e166); (try simp only [show (10 : Int).toNat = 10 from rfl, Nat.reduceMul, Nat.reduceEqDiff, Go.Addr.add, ↓reduceIte] at hx166_0); have qi166 : (10 < (rd_L1 l2 x31_2).length) = True := eq_true (by omega); (try rw [show ((10 : Int)).toNat = 10 from rfl] at hx166_0); replace p166 := eq_true p166; replace q166 := eq_true q166; have p167 : 0 ≤ (11 : Int) := (by omega); have q167 : 11 < ((rd_L1 l2 x31_2).length : Int) := of_decide_eq_true (by first | (with_reducible assumption) | assumption); obtain ⟨ad167, e167, hx167_0⟩ := Kd.at_int HR160_0.out 11 p167 q167; obtain rfl : ad161 = ad167 := (by injection e167); (try simp only [show (11 : Int).toNat = 11 from rfl, Nat.reduceMul, Nat.reduceEqDiff, Go.Addr.add, ↓reduceIte] at hx167_0); have qi167 : (11 < (rd_L1 l2 x31_2).length) = True := eq_true (by omega); (try rw [show ((11 : Int)).toNat = 11 from rfl] at hx167_0); replace p167 := eq_true p167; replace q167 := eq_true q167))
                                    repeat (go_quiet (first | (go_at_call 109; (with_reducible refine (impl_rowBalances.calls _ _ (rd_L1 l2 x31_2) true _ ?side1 ?side2 A18.out).mono ?_); (case side1 => repeat (first | exact HR160_0.out | (with_reducible refine Kd.C_alloc ?_ _) | (with_reducible refine Kd.C_drewN ?_ _) | (with_reducible refine Kd.C_drew ?_))); (case side2 => exact HC160_0.out); rintro e w' ⟨rfl, ⟨nd, rfl⟩⟩; (try first | exact ⟨rfl, _, World.drewN_drewN _ _ _⟩ | exact ⟨rfl, _, Eq.trans (World.drewN_drewN _ _ _) (congrArg (World.drewN _) (Nat.add_assoc _ _ _))⟩); have p166 : 0 ≤ (10 : Int) := (by omega); have q166 : 10 < ((rd_L1 l2 x31_2).length : Int) := of_decide_eq_true (by first | (with_reducible assumption) | assumption); obtain ⟨ad166, e166, hx166_0⟩ := Kd.at_int HR160_0.out 10 p166 q166; obtain rfl : ad161 = ad166 := (by injection e166); (try simp only [show (10 : Int).toNat = 10 from rfl, Nat.reduceMul, Nat.reduceEqDiff, Go.Addr.add, ↓reduceIte] at hx166_0); have qi166 : (10 < (rd_L1 l2 x31_2).length) = True := eq_true (by omega); (try rw [show ((10 : Int)).toNat = 10 from rfl] at hx166_0); replace p166 := eq_true p166; replace q166 := eq_true q166; have p167 : 0 ≤ (11 : Int) := (by omega); have q167 : 11 < ((rd_L1 l2 x31_2).length : Int) := of_decide_eq_true (by first | (with_reducible assumption) | assumption); obtain ⟨ad167, e167, hx167_0⟩ := Kd.at_int HR160_0.out 11 p167 q167; obtain rfl : ad161 = ad167 := (by injection e167); (try simp only [show (11 : Int).toNat = 11 from rfl, Nat.reduceMul, Nat.reduceEqDiff, Go.Addr.add, ↓reduceIte] at hx167_0); have qi167 : (11 < (rd_L1 l2 x31_2).length) = True := eq_true (by omega); (try rw [show ((11 : Int)).toNat = 11 from rfl] at hx167_0); replace p167 := eq_true p167; replace q167 := eq_true q167)); try go_wp2_with (first | (go_at_call 109; (with_reducible refine (impl_rowBalances.calls _ _ (rd_L1 l2 x31_2) true _ ?side1 ?side2 A18.out).mono ?_); (case side1 => repeat (first | exact HR160_0.out | (with_reducible refine Kd.C_alloc ?_ _) | (with_reducible refine Kd.C_drewN ?_ _) | (with_reducible refine Kd.C_drew ?_))); (case side2 => exact HC160_0.out); rintro e w' ⟨rfl, ⟨nd, rfl⟩⟩; (try first | exact ⟨rfl, _, World.drewN_drewN _ _ _⟩ | exact ⟨rfl, _, Eq.trans (World.drewN_drewN _ _ _) (congrArg (World.drewN _) (Nat.add_assoc _ _ _))⟩); have p166 : 0 ≤ (10 : Int) := (by omega); have q166 : 10 < ((rd_L1 l2 x31_2).length : Int) := of_decide_eq_true (by first | (with_reducible assumption) | assumption); obtain ⟨ad166, e166, hx166_0⟩ := Kd.at_int HR160_0.out 10 p166 q166; obtain rfl : ad161 = ad166 := (by injection e166); (try simp only [show (10 : Int).toNat = 10 from rfl, Nat.reduceMul, Nat.reduceEqDiff, Go.Addr.add, ↓reduceIte] at hx166_0); have qi166 : (10 < (rd_L1 l2 x31_2).length) = True := eq_true (by omega); (try rw [show ((10 : Int)).toNat = 10 from rfl] at hx166_0); replace p166 := eq_true p166; replace q166 := eq_true q166; have p167 : 0 ≤ (11 : Int) := (by omega); have q167 : 11 < ((rd_L1 l2 x31_2).length : Int) := of_decide_eq_true (by first | (with_reducible assumption) | assumption); obtain ⟨ad167, e167, hx167_0⟩ := Kd.at_int HR160_0.out 11 p167 q167; obtain rfl : ad161 = ad167 := (by injection e167); (try simp only [show (11 : Int).toNat = 11 from rfl, Nat.reduceMul, Nat.reduceEqDiff, Go.Addr.add, ↓reduceIte] at hx167_0); have qi167 : (11 < (rd_L1 l2 x31_2).length) = True := eq_true (by omega); (try rw [show ((11 : Int)).toNat = 11 from rfl] at hx167_0); replace p167 := eq_true p167; replace q167 := eq_true q167)))
                                    go_ret2
                                    exact ⟨by first | rfl | (simp; done) | (simp [*]; done), by repeat (first | exact Drawn0.refl _ | apply Drawn0.step)⟩
                                · rw [if_neg c22] at H
                                  exact absurd H (by simp)
                              · rw [if_neg c21] at H
                                have c21b0 : ((rd (rd_L1 l2 x31_2) 10) == (wrap64 (x0_2 + (wrap64 ((rd (rd_L1 l2 x31_2) 4) - (rd (rd_L1 l2 x31_2) 8)))))) = false := beq_eq_false_iff_ne.mpr c21
                                have c21b1 : ((rd (rd_L1 l2 x31_2) 10) != (wrap64 (x0_2 + (wrap64 ((rd (rd_L1 l2 x31_2) 4) - (rd (rd_L1 l2 x31_2) 8)))))) = true := bne_iff_ne.mpr c21
                                simp only [Option.some.injEq, Prod.mk.injEq] at H
                                obtain ⟨rfl, rfl⟩ := H
                                have p160 : 0 ≤ (x31_2 : Int) := of_decide_eq_true (by first | (with_reducible assumption) | assumption)
                                have q160 : x31_2 < (l2.length : Int) := of_decide_eq_true (by first | (with_reducible assumption) | assumption)
                                obtain ⟨ad160, A160_0, c160_0, e160, hx160_0, hl160_0, hi160_0⟩ := at_L1 HR2.out x31_2 p160 q160
                                cases e160
                                have HR160_0 := Aside0.mk hi160_0
                                have HC160_0 := Aside0.mk hl160_0
                                clear hi160_0 hl160_0
                                replace p160 := eq_true p160
                                replace q160 := eq_true q160
                                have p161 : 0 ≤ (4 : Int) := (by omega)
                                have q161 : 4 < ((rd_L1 l2 x31_2).length : Int) := of_decide_eq_true (by first | (with_reducible assumption) | assumption)
                                obtain ⟨ad161, e161, hx161_0⟩ := Kd.at_int HR160_0.out 4 p161 q161
                                cases e161
                                (try simp only [show (4 : Int).toNat = 4 from rfl, Nat.reduceMul, Nat.reduceEqDiff, Go.Addr.add, ↓reduceIte] at hx161_0)
                                have qi161 : (4 < (rd_L1 l2 x31_2).length) = True := eq_true (by omega)
                                (try rw [show ((4 : Int)).toNat = 4 from rfl] at hx161_0)
                                replace p161 := eq_true p161
                                replace q161 := eq_true q161
                                have p162 : 0 ≤ (8 : Int) := (by omega)
                                have q162 : 8 < ((rd_L1 l2 x31_2).length : Int) := of_decide_eq_true (by first | (with_reducible assumption) | assumption)
                                obtain ⟨ad162, e162, hx162_0⟩ := Kd.at_int HR160_0.out 8 p162 q162
                                obtain rfl : ad161 = ad162 := (by injection e162)
                                (try simp only [show (8 : Int).toNat = 8 from rfl, Nat.reduceMul, Nat.reduceEqDiff, Go.Addr.add, ↓reduceIte] at hx162_0)
                                have qi162 : (8 < (rd_L1 l2 x31_2).length) = True := eq_true (by omega)
                                (try rw [show ((8 : Int)).toNat = 8 from rfl] at hx162_0)
                                replace p162 := eq_true p162
                                replace q162 := eq_true q162
                                have p163 : 0 ≤ (5 : Int) := (by omega)
                                have q163 : 5 < ((rd_L1 l2 x31_2).length : Int) := of_decide_eq_true (by first | (with_reducible assumption) | assumption)
                                obtain ⟨ad163, e163, hx163_0⟩ := Kd.at_int HR160_0.out 5 p163 q163
                                obtain rfl : ad161 = ad163 := (by injection e163)
                                (try simp only [show (5 : Int).toNat = 5 from rfl, Nat.reduceMul, Nat.reduceEqDiff, Go.Addr.add, ↓reduceIte] at hx163_0)
                                have qi163 : (5 < (rd_L1 l2 x31_2).length) = True := eq_true (by omega)
                                (try rw [show ((5 : Int)).toNat = 5 from rfl] at hx163_0)
                                replace p163 := eq_true p163
                                replace q163 := eq_true q163
                                have p164 : 0 ≤ (9 : Int) := (by omega)
                                have q164 : 9 < ((rd_L1 l2 x31_2).length : Int) := of_decide_eq_true (by first | (with_reducible assumption) | assumption)
                                obtain ⟨ad164, e164, hx164_0⟩ := Kd.at_int HR160_0.out 9 p164 q164
                                obtain rfl : ad161 = ad164 := (by injection e164)
                                (try simp only [show (9 : Int).toNat = 9 from rfl, Nat.reduceMul, Nat.reduceEqDiff, Go.Addr.add, ↓reduceIte] at hx164_0)
                                have qi164 : (9 < (rd_L1 l2 x31_2).length) = True := eq_true (by omega)
                                (try rw [show ((9 : Int)).toNat = 9 from rfl] at hx164_0)
                                replace p164 := eq_true p164
                                replace q164 := eq_true q164
                                go_wp2_with (first | (go_at_call 109; (with_reducible refine (impl_rowBalances.calls _ _ (rd_L1 l2 x31_2) true _ ?side1 ?side2 A18.out).mono ?_); (case side1 => repeat (first | exact HR160_0.out | (with_reducible refine Kd.C_alloc ?_ _) | (with_reducible refine Kd.C_drewN ?_ _) | (with_reducible refine Kd.C_drew ?_))); (case side2 => exact HC160_0.out); rintro e w' ⟨rfl, ⟨nd, rfl⟩⟩; (try first | exact ⟨rfl, _, World.drewN_drewN _ _ _⟩ | exact ⟨rfl, _, Eq.trans (World.drewN_drewN _ _ _) (congrArg (World.drewN _) (Nat.add_assoc _ _ _))⟩); have p166 : 0 ≤ (10 : Int) := (by omega); have q166 : 10 < ((rd_L1 l2 x31_2).length : Int) := of_decide_eq_true (by first | (with_reducible assumption) | assumption); obtain ⟨ad166, e166, hx166_0⟩ := Kd.at_int HR160_0.out 10 p166 q166; obtain rfl : ad161 = ad166 := (by injection e166); (try simp only [show (10 : Int).toNat = 10 from rfl, Nat.reduceMul, Nat.reduceEqDiff, Go.Addr.add, ↓reduceIte] at hx166_0); have qi166 : (10 < (rd_L1 l2 x31_2).length) = True := eq_true (by omega); (try rw [show ((10 : Int)).toNat = 10 from rfl] at hx166_0); replace p166 := eq_true p166; replace q166 := eq_true q166))
                                repeat (go_quiet (first | (go_at_call 109; (with_reducible refine (impl_rowBalances.calls _ _ (rd_L1 l2 x31_2) true _ ?side1 ?side2 A18.out).mono ?_); (case side1 => repeat (first | exact HR160_0.out | (with_reducible refine Kd.C_alloc ?_ _) | (with_reducible refine Kd.C_drewN ?_ _) | (with_reducible refine Kd.C_drew ?_))); (case side2 => exact HC160_0.out); rintro e w' ⟨rfl, ⟨nd, rfl⟩⟩; (try first | exact ⟨rfl, _, World.drewN_drewN _ _ _⟩ | exact ⟨rfl, _, Eq.trans (World.drewN_drewN _ _ _) (congrArg (World.drewN _) (Nat.add_assoc _ _ _))⟩); have p166 : 0 ≤ (10 : Int) := (by omega); have q166 : 10 < ((rd_L1 l2 x31_2).length : Int) := of_decide_eq_true (by first | (with_reducible assumption) | assumption); obtain ⟨ad166, e166, hx166_0⟩ := Kd.at_int HR160_0.out 10 p166 q166; obtain rfl : ad161 = ad166 := (by injection e166); (try simp only [show (10 : Int).toNat = 10 from rfl, Nat.reduceMul, Nat.reduceEqDiff, Go.Addr.add, ↓reduceIte] at hx166_0); have qi166 : (10 < (rd_L1 l2 x31_2).length) = True := eq_true (by omega); (try rw [show ((10 : Int)).toNat = 10 from rfl] at hx166_0); replace p166 := eq_true p166; replace q166 := eq_true q166)); try go_wp2_with (first | (go_at_call 109; (with_reducible refine (impl_rowBalances.calls _ _ (rd_L1 l2 x31_2) true _ ?side1 ?side2 A18.out).mono ?_); (case side1 => repeat (first | exact HR160_0.out | (with_reducible refine Kd.C_alloc ?_ _) | (with_reducible refine Kd.C_drewN ?_ _) | (with_reducible refine Kd.C_drew ?_))); (case side2 => exact HC160_0.out); rintro e w' ⟨rfl, ⟨nd, rfl⟩⟩; (try first | exact ⟨rfl, _, World.drewN_drewN _ _ _⟩ | exact ⟨rfl, _, Eq.trans (World.drewN_drewN _ _ _) (congrArg (World.drewN _) (Nat.add_assoc _ _ _))⟩); have p166 : 0 ≤ (10 : Int) := (by omega); have q166 : 10 < ((rd_L1 l2 x31_2).length : Int) := of_decide_eq_true (by first | (with_reducible assumption) | assumption); obtain ⟨ad166, e166, hx166_0⟩ := Kd.at_int HR160_0.out 10 p166 q166; obtain rfl : ad161 = ad166 := (by injection e166); (try simp only [show (10 : Int).toNat = 10 from rfl, Nat.reduceMul, Nat.reduceEqDiff, Go.Addr.add, ↓reduceIte] at hx166_0); have qi166 : (10 < (rd_L1 l2 x31_2).length) = True := eq_true (by omega); (try rw [show ((10 : Int)).toNat = 10 from rfl] at hx166_0); replace p166 := eq_true p166; replace q166 := eq_true q166)))
                                go_ret2
                                exact ⟨by first | rfl | (simp; done) | (simp [*]; done), by repeat (first | exact Drawn0.refl _ | apply Drawn0.step)⟩
                            · rw [if_neg c20] at H
                              exact absurd H (by simp)
                          · replace c19 := Bool.eq_false_iff.mpr c19
                            subst c19
                            have H1 : (some (x31_2, true)) = some (r1, r2) := by rw [if_neg (show ¬ (false = true) by decide)] at H; exact H
                            clear H
                            have H := H1
                            clear H1
                            simp only [Option.some.injEq, Prod.mk.injEq] at H
                            obtain ⟨rfl, rfl⟩ := H
                            have p160 : 0 ≤ (x31_2 : Int) := of_decide_eq_true (by first | (with_reducible assumption) | assumption)
                            have q160 : x31_2 < (l2.length : Int) := of_decide_eq_true (by first | (with_reducible assumption) | assumption)
                            obtain ⟨ad160, A160_0, c160_0, e160, hx160_0, hl160_0, hi160_0⟩ := at_L1 HR2.out x31_2 p160 q160
                            cases e160
                            have HR160_0 := Aside0.mk hi160_0
                            have HC160_0 := Aside0.mk hl160_0
                            clear hi160_0 hl160_0
                            replace p160 := eq_true p160
                            replace q160 := eq_true q160
                            have p161 : 0 ≤ (4 : Int) := (by omega)
                            have q161 : 4 < ((rd_L1 l2 x31_2).length : Int) := of_decide_eq_true (by first | (with_reducible assumption) | assumption)
                            obtain ⟨ad161, e161, hx161_0⟩ := Kd.at_int HR160_0.out 4 p161 q161
                            cases e161
                            (try simp only [show (4 : Int).toNat = 4 from rfl, Nat.reduceMul, Nat.reduceEqDiff, Go.Addr.add, ↓reduceIte] at hx161_0)
                            have qi161 : (4 < (rd_L1 l2 x31_2).length) = True := eq_true (by omega)
                            (try rw [show ((4 : Int)).toNat = 4 from rfl] at hx161_0)
                            replace p161 := eq_true p161
                            replace q161 := eq_true q161
                            have p162 : 0 ≤ (8 : Int) := (by omega)
                            have q162 : 8 < ((rd_L1 l2 x31_2).length : Int) := of_decide_eq_true (by first | (with_reducible assumption) | assumption)
                            obtain ⟨ad162, e162, hx162_0⟩ := Kd.at_int HR160_0.out 8 p162 q162
                            obtain rfl : ad161 = ad162 := (by injection e162)
                            (try simp only [show (8 : Int).toNat = 8 from rfl, Nat.reduceMul, Nat.reduceEqDiff, Go.Addr.add, ↓reduceIte] at hx162_0)
                            have qi162 : (8 < (rd_L1 l2 x31_2).length) = True := eq_true (by omega)
                            (try rw [show ((8 : Int)).toNat = 8 from rfl] at hx162_0)
                            replace p162 := eq_true p162
                            replace q162 := eq_true q162
                            have p163 : 0 ≤ (5 : Int) := (by omega)
                            have q163 : 5 < ((rd_L1 l2 x31_2).length : Int) := of_decide_eq_true (by first | (with_reducible assumption) | assumption)
                            obtain ⟨ad163, e163, hx163_0⟩ := Kd.at_int HR160_0.out 5 p163 q163
                            obtain rfl : ad161 = ad163 := (by injection e163)
                            (try simp only [show (5 : Int).toNat = 5 from rfl, Nat.reduceMul, Nat.reduceEqDiff, Go.Addr.add, ↓reduceIte] at hx163_0)
                            have qi163 : (5 < (rd_L1 l2 x31_2).length) = True := eq_true (by omega)
                            (try rw [show ((5 : Int)).toNat = 5 from rfl] at hx163_0)
                            replace p163 := eq_true p163
                            replace q163 := eq_true q163
                            have p164 : 0 ≤ (9 : Int) := (by omega)
                            have q164 : 9 < ((rd_L1 l2 x31_2).length : Int) := of_decide_eq_true (by first | (with_reducible assumption) | assumption)
                            obtain ⟨ad164, e164, hx164_0⟩ := Kd.at_int HR160_0.out 9 p164 q164
                            obtain rfl : ad161 = ad164 := (by injection e164)
                            (try simp only [show (9 : Int).toNat = 9 from rfl, Nat.reduceMul, Nat.reduceEqDiff, Go.Addr.add, ↓reduceIte] at hx164_0)
                            have qi164 : (9 < (rd_L1 l2 x31_2).length) = True := eq_true (by omega)
                            (try rw [show ((9 : Int)).toNat = 9 from rfl] at hx164_0)
                            replace p164 := eq_true p164
                            replace q164 := eq_true q164
                            go_wp2_with (first | (go_at_call 109; (with_reducible refine (impl_rowBalances.calls _ _ (rd_L1 l2 x31_2) false _ ?side1 ?side2 A18.out).mono ?_); (case side1 => repeat (first | exact HR160_0.out | (with_reducible refine Kd.C_alloc ?_ _) | (with_reducible refine Kd.C_drewN ?_ _) | (with_reducible refine Kd.C_drew ?_))); (case side2 => exact HC160_0.out); rintro e w' ⟨rfl, ⟨nd, rfl⟩⟩; (try first | exact ⟨rfl, _, World.drewN_drewN _ _ _⟩ | exact ⟨rfl, _, Eq.trans (World.drewN_drewN _ _ _) (congrArg (World.drewN _) (Nat.add_assoc _ _ _))⟩)))
                            repeat (go_quiet (first | (go_at_call 109; (with_reducible refine (impl_rowBalances.calls _ _ (rd_L1 l2 x31_2) false _ ?side1 ?side2 A18.out).mono ?_); (case side1 => repeat (first | exact HR160_0.out | (with_reducible refine Kd.C_alloc ?_ _) | (with_reducible refine Kd.C_drewN ?_ _) | (with_reducible refine Kd.C_drew ?_))); (case side2 => exact HC160_0.out); rintro e w' ⟨rfl, ⟨nd, rfl⟩⟩; (try first | exact ⟨rfl, _, World.drewN_drewN _ _ _⟩ | exact ⟨rfl, _, Eq.trans (World.drewN_drewN _ _ _) (congrArg (World.drewN _) (Nat.add_assoc _ _ _))⟩))); try go_wp2_with (first | (go_at_call 109; (with_reducible refine (impl_rowBalances.calls _ _ (rd_L1 l2 x31_2) false _ ?side1 ?side2 A18.out).mono ?_); (case side1 => repeat (first | exact HR160_0.out | (with_reducible refine Kd.C_alloc ?_ _) | (with_reducible refine Kd.C_drewN ?_ _) | (with_reducible refine Kd.C_drew ?_))); (case side2 => exact HC160_0.out); rintro e w' ⟨rfl, ⟨nd, rfl⟩⟩; (try first | exact ⟨rfl, _, World.drewN_drewN _ _ _⟩ | exact ⟨rfl, _, Eq.trans (World.drewN_drewN _ _ _) (congrArg (World.drewN _) (Nat.add_assoc _ _ _))⟩))))
                            go_ret2
                            exact ⟨by first | rfl | (simp; done) | (simp [*]; done), by repeat (first | exact Drawn0.refl _ | apply Drawn0.step)⟩
                        · rw [if_neg c17] at H
                          exact absurd H (by simp)
                      · rw [if_neg c16] at H
                        exact absurd H (by simp)
                    · rw [if_neg c15] at H
                      exact absurd H (by simp)
                  · rw [if_neg c14] at H
                    exact absurd H (by simp)
                · rw [if_neg c13] at H
                  exact absurd H (by simp)
              · rw [if_neg c12] at H
                exact absurd H (by simp)
            · rw [if_neg c11] at H
              have c11b0 : decide (x31_2 < (l2.length : Int)) = false := decide_eq_false c11
              clear c11
              simp only [Option.some.injEq, Prod.mk.injEq] at H
              obtain ⟨rfl, rfl⟩ := H
              go_wp2
              repeat (go_quiet (fail); try go_wp2)
              go_ret2
              exact ⟨by first | rfl | (simp; done) | (simp [*]; done), by repeat (first | exact Drawn0.refl _ | apply Drawn0.step)⟩

/-! ### laws_FnExactFirstImbalance: function 8 -/
def laws_FnExactFirstImbalance.j0 : Nat → List (List Int) → List (List Int) → Bool → Option (Bool)
  | 0, _, _, _ => none
  | k + 1, x2, x10, x42 => if x42 = true then (some false) else ((laws_toIntSS.f k x2).bind fun t179 => ((laws_eqIntSS.f k x10 t179).bind fun t182 => (if t182 = true then (some true) else (some false))))
def laws_FnExactFirstImbalance.f (k : Nat) (a0 : Int) (a1 : Int) (l2 : List (List Int)) : Option (Bool) := (laws_szIntSS.f k l2 1048576).bind fun t168 => (if t168 < 0 then (some true) else ((laws_toIntSS.f k l2).bind fun t169 => ((spec_FirstImbalance.f k a0 a1 t169).bind fun bt172 => ((laws_toIntSS.f k l2).bind fun t174 => ((impl_FirstImbalance.f k a0 a1 t174).bind fun bt177 => (if bt177.1 = bt172.1 then (laws_FnExactFirstImbalance.j0 k l2 t174 (bt177.2 != bt172.2)) else (laws_FnExactFirstImbalance.j0 k l2 t174 true)))))))
theorem laws_FnExactFirstImbalance.mono_l : ∀ k, (∀ y0 y1 y2, LeO (laws_FnExactFirstImbalance.j0 k y0 y1 y2) (laws_FnExactFirstImbalance.j0 (k + 1) y0 y1 y2))
  | 0 => fun _ _ _ r h => by simp [laws_FnExactFirstImbalance.j0] at h
  | k + 1 => by
    have ih0 := laws_FnExactFirstImbalance.mono_l k
    · intro y0 y1 y2
      unfold laws_FnExactFirstImbalance.j0
      repeat' first
      | (with_reducible exact ih0 _ _ _)
      | (with_reducible exact impl_FirstImbalance.mono _ _ _ _)
      | (with_reducible exact laws_eqIntSS.mono _ _ _)
      | (with_reducible exact laws_szIntSS.mono _ _ _)
      | (with_reducible exact laws_toIntSS.mono _ _)
      | (with_reducible exact spec_FirstImbalance.mono _ _ _ _)
      | (with_reducible exact LeO.refl _)
      | (with_reducible exact LeO.none _)
      | (with_reducible refine LeO.ite ?_ ?_)
      | (with_reducible refine LeO.bind ?_ (fun _ => ?_))
      | exact ih0 _ _ _
      | exact impl_FirstImbalance.mono _ _ _ _
      | exact laws_eqIntSS.mono _ _ _
      | exact laws_szIntSS.mono _ _ _
      | exact laws_toIntSS.mono _ _
      | exact spec_FirstImbalance.mono _ _ _ _
      | exact LeO.none _
      | refine LeO.ite ?_ ?_
      | refine LeO.bind ?_ (fun _ => ?_)
theorem laws_FnExactFirstImbalance.mono : ∀ a0 a1 a2 k, LeO (laws_FnExactFirstImbalance.f k a0 a1 a2) (laws_FnExactFirstImbalance.f (k + 1) a0 a1 a2) := by
  intro a0 a1 a2 k
  have ih0 := laws_FnExactFirstImbalance.mono_l k
  unfold laws_FnExactFirstImbalance.f
  repeat' first
      | (with_reducible exact ih0 _ _ _)
      | (with_reducible exact impl_FirstImbalance.mono _ _ _ _)
      | (with_reducible exact laws_eqIntSS.mono _ _ _)
      | (with_reducible exact laws_szIntSS.mono _ _ _)
      | (with_reducible exact laws_toIntSS.mono _ _)
      | (with_reducible exact spec_FirstImbalance.mono _ _ _ _)
      | (with_reducible exact LeO.refl _)
      | (with_reducible exact LeO.none _)
      | (with_reducible refine LeO.ite ?_ ?_)
      | (with_reducible refine LeO.bind ?_ (fun _ => ?_))
      | exact ih0 _ _ _
      | exact impl_FirstImbalance.mono _ _ _ _
      | exact laws_eqIntSS.mono _ _ _
      | exact laws_szIntSS.mono _ _ _
      | exact laws_toIntSS.mono _ _
      | exact spec_FirstImbalance.mono _ _ _ _
      | exact LeO.none _
      | refine LeO.ite ?_ ?_
      | refine LeO.bind ?_ (fun _ => ?_)
set_option maxHeartbeats 8000000 in
set_option maxRecDepth 100000 in
theorem laws_FnExactFirstImbalance.calls (k : Nat) (a0 : Int) (a1 : Int) (A2 : Option Addr) (c2 : Nat) (l2 : List (List Int)) (r : Bool) (w : World) (hr2 : Kd.C (Kd.slice 3 (Kd.int .i64)) w A2 l2.length l2) (hc2 : l2.length ≤ c2) (h : laws_FnExactFirstImbalance.f k a0 a1 l2 = some r) :
    Calls Try.prog 8 #[.int .i64 a0, .int .i64 a1, .slice A2 l2.length c2] w fun e w' => e = .returned (.bool r) ∧ Below w.heap.size w w' := by
  have HR2 := Aside0.mk hr2
  have HC2 := Aside0.mk hc2
  clear hr2 hc2
  have HB := Aside0.mk (Below.refl w.heap.size w)
  have H : ((laws_szIntSS.f k l2 1048576).bind fun t168 => (if t168 < 0 then (some true) else ((laws_toIntSS.f k l2).bind fun t169 => ((spec_FirstImbalance.f k a0 a1 t169).bind fun bt172 => ((laws_toIntSS.f k l2).bind fun t174 => ((impl_FirstImbalance.f k a0 a1 t174).bind fun bt177 => (if bt177.1 = bt172.1 then (laws_FnExactFirstImbalance.j0 k l2 t174 (bt177.2 != bt172.2)) else (laws_FnExactFirstImbalance.j0 k l2 t174 true)))))))) = some r := h
  clear h
  replace H := Option.bind_eq_some_iff.mp H
  obtain ⟨t168, A40, H⟩ := H
  replace H : (if t168 < 0 then (some true) else ((laws_toIntSS.f k l2).bind fun t169 => ((spec_FirstImbalance.f k a0 a1 t169).bind fun bt172 => ((laws_toIntSS.f k l2).bind fun t174 => ((impl_FirstImbalance.f k a0 a1 t174).bind fun bt177 => (if bt177.1 = bt172.1 then (laws_FnExactFirstImbalance.j0 k l2 t174 (bt177.2 != bt172.2)) else (laws_FnExactFirstImbalance.j0 k l2 t174 true))))))) = some r := H
  have A4 := Aside0.mk A40
  clear A40
  by_cases c5 : t168 < 0
  · rw [if_pos c5] at H
    have c5b0 : decide (t168 < 0) = true := decide_eq_true c5
    clear c5
    obtain rfl := Option.some.inj H
    go_enter Try.func8, Try.ntmps8
    go_wp2_with (first | ((with_reducible refine gate_callee (f := 44) rfl ?_); refine goesL_ (some 15) rfl rfl Try.func44 (by kernel_rfl) rfl #[.slice A2 l2.length c2, .int .i64 1048576] rfl (by (try simp only [List.map_toArray, List.map_cons, List.map_nil]); first | done | rfl | (simp only [List.length_drop, List.length_take]; rfl)) ?_; (with_reducible refine (laws_szIntSS.calls k _ _ l2 1048576 t168 _ ?side1 ?side2 A4.out).mono ?_); (case side1 => repeat (first | exact HR2.out | (with_reducible refine Kd.C_alloc ?_ _) | (with_reducible refine Kd.C_drewN ?_ _) | (with_reducible refine Kd.C_drew ?_))); (case side2 => exact HC2.out); rintro e w' ⟨rfl, ⟨nd, rfl⟩⟩; refine ⟨_, rfl, ?_⟩))
    go_ret
    exact ⟨by first | rfl | (simp [errW_none, errW_some] <;> rfl) | (simp [*, errW_none, errW_some] <;> rfl), by repeat (first | (with_reducible first | exact HB.out | apply below_alloc | apply pw_below_drewN | apply below_drew1) | exact HB.out)⟩
  · rw [if_neg c5] at H
    have c5b0 : decide (t168 < 0) = false := decide_eq_false c5
    clear c5
    replace H := Option.bind_eq_some_iff.mp H
    obtain ⟨t169, A60, H⟩ := H
    replace H : ((spec_FirstImbalance.f k a0 a1 t169).bind fun bt172 => ((laws_toIntSS.f k l2).bind fun t174 => ((impl_FirstImbalance.f k a0 a1 t174).bind fun bt177 => (if bt177.1 = bt172.1 then (laws_FnExactFirstImbalance.j0 k l2 t174 (bt177.2 != bt172.2)) else (laws_FnExactFirstImbalance.j0 k l2 t174 true))))) = some r := H
    have A6 := Aside0.mk A60
    clear A60
    replace H := Option.bind_eq_some_iff.mp H
    obtain ⟨⟨t172, t173⟩, A70, H⟩ := H
    replace H : ((laws_toIntSS.f k l2).bind fun t174 => ((impl_FirstImbalance.f k a0 a1 t174).bind fun bt177 => (if bt177.1 = t172 then (laws_FnExactFirstImbalance.j0 k l2 t174 (bt177.2 != t173)) else (laws_FnExactFirstImbalance.j0 k l2 t174 true)))) = some r := H
    have A7 := Aside0.mk A70
    clear A70
    replace H := Option.bind_eq_some_iff.mp H
    obtain ⟨t174, A80, H⟩ := H
    replace H : ((impl_FirstImbalance.f k a0 a1 t174).bind fun bt177 => (if bt177.1 = t172 then (laws_FnExactFirstImbalance.j0 k l2 t174 (bt177.2 != t173)) else (laws_FnExactFirstImbalance.j0 k l2 t174 true))) = some r := H
    have A8 := Aside0.mk A80
    clear A80
    replace H := Option.bind_eq_some_iff.mp H
    obtain ⟨⟨t177, t178⟩, A90, H⟩ := H
    replace H : (if t177 = t172 then (laws_FnExactFirstImbalance.j0 k l2 t174 (t178 != t173)) else (laws_FnExactFirstImbalance.j0 k l2 t174 true)) = some r := H
    have A9 := Aside0.mk A90
    clear A90
    have HC10 := Aside0.mk H
    clear H
    go_enter Try.func8, Try.ntmps8
    go_upto_region 8 with (first | ((with_reducible refine gate_callee (f := 44) rfl ?_); refine goesL_ (some 15) rfl rfl Try.func44 (by kernel_rfl) rfl #[.slice A2 l2.length c2, .int .i64 1048576] rfl (by (try simp only [List.map_toArray, List.map_cons, List.map_nil]); first | done | rfl | (simp only [List.length_drop, List.length_take]; rfl)) ?_; (with_reducible refine (laws_szIntSS.calls k _ _ l2 1048576 t168 _ ?side1 ?side2 A4.out).mono ?_); (case side1 => repeat (first | exact HR2.out | (with_reducible refine Kd.C_alloc ?_ _) | (with_reducible refine Kd.C_drewN ?_ _) | (with_reducible refine Kd.C_drew ?_))); (case side2 => exact HC2.out); rintro e w' ⟨rfl, ⟨nd, rfl⟩⟩; refine ⟨_, rfl, ?_⟩) | ((with_reducible refine gate_callee (f := 46) rfl ?_); refine goesL_ (some 22) rfl rfl Try.func46 (by kernel_rfl) rfl #[.slice A2 l2.length c2] rfl (by (try simp only [List.map_toArray, List.map_cons, List.map_nil]); first | done | rfl | (simp only [List.length_drop, List.length_take]; rfl)) ?_; (with_reducible refine (laws_toIntSS.calls k _ _ l2 t169 _ ?side1 ?side2 A6.out).mono ?_); (case side1 => repeat (first | exact HR2.out | (with_reducible refine Kd.C_alloc ?_ _) | (with_reducible refine Kd.C_drewN ?_ _) | (with_reducible refine Kd.C_drew ?_))); (case side2 => exact HC2.out); rintro e w11 ⟨v170, rfl, ho0, hb⟩; refine ⟨_, rfl, ?_⟩; have n0_ := Aside0.mk (Kd.S_lower ho0 (below_size (by repeat (first | (with_reducible first | exact HB.out | apply below_alloc | apply pw_below_drewN | apply below_drew1) | exact HB.out)))); have n1_ := Aside0.mk (below_step (by repeat (first | (with_reducible first | exact HB.out | apply below_alloc | apply pw_below_drewN | apply below_drew1) | exact HB.out)) hb); clear HB; have HO171 := n0_; have HB := n1_; clear n0_ n1_; (try clear hb); (try clear hb2); (try clear hk); (try clear hi); (try clear ho0); obtain ⟨Ao12, co12, eo12⟩ := Kd.S_slice HO171.out; subst eo12) | ((with_reducible refine gate_callee (f := 55) rfl ?_); refine goesL_ (some 23) rfl rfl Try.func55 (by kernel_rfl) rfl #[.int .i64 a0, .int .i64 a1, .slice Ao12 t169.length co12] rfl (by (try simp only [List.map_toArray, List.map_cons, List.map_nil]); first | done | rfl | (simp only [List.length_drop, List.length_take]; rfl)) ?_; (with_reducible refine (spec_FirstImbalance.calls k a0 a1 _ _ t169 t172 t173 _ ?side1 ?side2 A7.out).mono ?_); (case side1 => repeat (first | exact (Kd.S_reads' HO171.out).2.2 | (with_reducible refine Kd.C_alloc ?_ _) | (with_reducible refine Kd.C_drewN ?_ _) | (with_reducible refine Kd.C_drew ?_))); (case side2 => exact (Kd.S_reads' HO171.out).2.1); rintro e w13 ⟨rfl, hb⟩; refine ⟨_, rfl, ?_⟩; have n0_ := Aside0.mk (Kd.S_below (by (with_reducible repeat (first | apply Kd.S_alloc | apply Kd.S_drewN | apply Kd.S_drew)); exact HO171.out) hb); have n1_ := Aside0.mk (below_step (by repeat (first | (with_reducible first | exact HB.out | apply below_alloc | apply pw_below_drewN | apply below_drew1) | exact HB.out)) hb); clear HO171; clear HB; have HO171 := n0_; have HB := n1_; clear n0_ n1_; (try clear hb); (try clear hb2); (try clear hk); (try clear hi)) | ((with_reducible refine gate_callee (f := 46) rfl ?_); refine goesL_ (some 27) rfl rfl Try.func46 (by kernel_rfl) rfl #[.slice A2 l2.length c2] rfl (by (try simp only [List.map_toArray, List.map_cons, List.map_nil]); first | done | rfl | (simp only [List.length_drop, List.length_take]; rfl)) ?_; (with_reducible refine (laws_toIntSS.calls k _ _ l2 t174 _ ?side1 ?side2 A8.out).mono ?_); (case side1 => repeat (first | exact (Kd.C_below HR2.out HB.out) | (with_reducible refine Kd.C_alloc ?_ _) | (with_reducible refine Kd.C_drewN ?_ _) | (with_reducible refine Kd.C_drew ?_))); (case side2 => exact HC2.out); rintro e w14 ⟨v175, rfl, ho0, hb⟩; refine ⟨_, rfl, ?_⟩; have n0_ := Aside0.mk (Kd.S_elder' (by (with_reducible repeat (first | apply Kd.S_alloc | apply Kd.S_drewN | apply Kd.S_drew)); exact HO171.out) (Kd.S_base ho0) hb); have n1_ := Aside0.mk (Kd.S_lower (Kd.S_new' ho0 (Kd.S_lt (by (with_reducible repeat (first | apply Kd.S_alloc | apply Kd.S_drewN | apply Kd.S_drew)); exact HO171.out))) (below_size (by repeat (first | (with_reducible first | exact HB.out | apply below_alloc | apply pw_below_drewN | apply below_drew1) | exact HB.out)))); have n2_ := Aside0.mk (below_step (by repeat (first | (with_reducible first | exact HB.out | apply below_alloc | apply pw_below_drewN | apply below_drew1) | exact HB.out)) hb); clear HO171; clear HB; have HO171 := n0_; have HO176 := n1_; have HB := n2_; clear n0_ n1_ n2_; (try clear hb); (try clear hb2); (try clear hk); (try clear hi); (try clear ho0); obtain ⟨Ao15, co15, eo15⟩ := Kd.S_slice HO176.out; subst eo15) | ((with_reducible refine gate_callee (f := 56) rfl ?_); refine goesL_ (some 32) rfl rfl Try.func56 (by kernel_rfl) rfl #[.int .i64 a0, .int .i64 a1, .slice Ao15 t174.length co15] rfl (by (try simp only [List.map_toArray, List.map_cons, List.map_nil]); first | done | rfl | (simp only [List.length_drop, List.length_take]; rfl)) ?_; (with_reducible refine (impl_FirstImbalance.calls k a0 a1 _ _ t174 t177 t178 _ ?side1 ?side2 A9.out).mono ?_); (case side1 => repeat (first | exact (Kd.S_reads' HO176.out).2.2 | (with_reducible refine Kd.C_alloc ?_ _) | (with_reducible refine Kd.C_drewN ?_ _) | (with_reducible refine Kd.C_drew ?_))); (case side2 => exact (Kd.S_reads' HO176.out).2.1); rintro e w' ⟨rfl, ⟨nd, rfl⟩⟩; refine ⟨_, rfl, ?_⟩))
    (try simp only [Act.put, List.setIfInBounds_toArray, List.set_cons_zero, List.set_cons_succ])
    go_cut [42] (fun v42 wc => ∃ (kq : Nat) (x42_9 : Bool), v42 = .bool x42_9 ∧ Aside0 (laws_FnExactFirstImbalance.j0 kq l2 t174 x42_9 = some r) ∧ Aside0 (kq ≤ k) ∧ Aside0 (Kd.S (Kd.slice 3 (Kd.int .i64)) 34 wc w.heap.size (fun _ => True) (.slice Ao15 t174.length co15) t174) ∧ Aside0 (Below w.heap.size w wc))
    case first =>
      have H := HC10.out
      clear HC10
      by_cases c16 : t177 = t172
      · rw [if_pos c16] at H
        have c16b0 : (t177 == t172) = true := beq_iff_eq.mpr c16
        have c16b1 : (t177 != t172) = false := bne_eq_false_iff_eq.mpr c16
        clear c16
        (first | rw [c16b0] | (simp only [i64_w, i32_w]; rw [c16b0]) | skip)
        have H' := Aside0.mk H
        clear H
        go_wp2
        go_meet
        case rel => exact ⟨_, ((t178 != t173)), (by first | rfl | (simp; done) | (simp [*]; done)), H', ⟨by first | omega | exact Nat.le_refl _⟩, ⟨by (with_reducible repeat (first | apply Kd.S_alloc | apply Kd.S_drewN | apply Kd.S_drew)); exact Kd.S_mono HO176.out (fun _ hk => trivial)⟩, ⟨by repeat (first | (with_reducible first | exact HB.out | apply below_alloc | apply pw_below_drewN | apply below_drew1) | exact HB.out)⟩⟩
      · rw [if_neg c16] at H
        have c16b0 : (t177 == t172) = false := beq_eq_false_iff_ne.mpr c16
        have c16b1 : (t177 != t172) = true := bne_iff_ne.mpr c16
        (first | rw [c16b0] | (simp only [i64_w, i32_w]; rw [c16b0]) | skip)
        have H' := Aside0.mk H
        clear H
        go_wp2
        go_meet
        case rel => exact ⟨_, (true), (by first | rfl | (simp; done) | (simp [*]; done)), H', ⟨by first | omega | exact Nat.le_refl _⟩, ⟨by (with_reducible repeat (first | apply Kd.S_alloc | apply Kd.S_drewN | apply Kd.S_drew)); exact Kd.S_mono HO176.out (fun _ hk => trivial)⟩, ⟨by repeat (first | (with_reducible first | exact HB.out | apply below_alloc | apply pw_below_drewN | apply below_drew1) | exact HB.out)⟩⟩
    case rest =>
      clear HC10
      try clear c1
      try clear c2
      try clear p2
      try clear c4
      try clear c5
      try clear c5b0
      try clear c8
      try clear c16
      try clear c16b0
      try clear c16b1
      obtain ⟨kq, x42_9, rfl, HA, HJ9, HO_10, HB⟩ := hcut
      cases kq with
      | zero => exact absurd HA.out (by simp [laws_FnExactFirstImbalance.j0])
      | succ kj9 =>
        have H := HA.out
        clear HA
        simp only [laws_FnExactFirstImbalance.j0] at H
        by_cases c17 : x42_9 = true
        · subst c17
          have H1 : (some false) = some r := by rw [if_pos rfl] at H; exact H
          clear H
          have H := H1
          clear H1
          obtain rfl := Option.some.inj H
          go_wp2
          go_ret
          exact ⟨by first | rfl | (simp [errW_none, errW_some] <;> rfl) | (simp [*, errW_none, errW_some] <;> rfl), by repeat (first | (with_reducible first | exact HB.out | apply below_alloc | apply pw_below_drewN | apply below_drew1) | exact HB.out)⟩
        · replace c17 := Bool.eq_false_iff.mpr c17
          subst c17
          have H1 : ((laws_toIntSS.f kj9 l2).bind fun t179 => ((laws_eqIntSS.f kj9 t174 t179).bind fun t182 => (if t182 = true then (some true) else (some false)))) = some r := by rw [if_neg (show ¬ (false = true) by decide)] at H; exact H
          clear H
          have H := H1
          clear H1
          replace H := Option.bind_eq_some_iff.mp H
          obtain ⟨t179, A180, H⟩ := H
          replace H : ((laws_eqIntSS.f kj9 t174 t179).bind fun t182 => (if t182 = true then (some true) else (some false))) = some r := H
          have A18 := Aside0.mk A180
          clear A180
          replace H := Option.bind_eq_some_iff.mp H
          obtain ⟨t182, A190, H⟩ := H
          replace H : (if t182 = true then (some true) else (some false)) = some r := H
          have A19 := Aside0.mk A190
          clear A190
          by_cases c20 : t182 = true
          · subst c20
            have H1 : (some true) = some r := by rw [if_pos rfl] at H; exact H
            clear H
            have H := H1
            clear H1
            obtain rfl := Option.some.inj H
            go_wp2_with (first | ((with_reducible refine gate_callee (f := 46) rfl ?_); refine goesL_ (some 45) rfl rfl Try.func46 (by kernel_rfl) rfl #[.slice A2 l2.length c2] rfl (by (try simp only [List.map_toArray, List.map_cons, List.map_nil]); first | done | rfl | (simp only [List.length_drop, List.length_take]; rfl)) ?_; (with_reducible refine (laws_toIntSS.calls kj9 _ _ l2 t179 _ ?side1 ?side2 A18.out).mono ?_); (case side1 => repeat (first | exact (Kd.C_below HR2.out HB.out) | (with_reducible refine Kd.C_alloc ?_ _) | (with_reducible refine Kd.C_drewN ?_ _) | (with_reducible refine Kd.C_drew ?_))); (case side2 => exact HC2.out); rintro e w21 ⟨v180, rfl, ho0, hb⟩; refine ⟨_, rfl, ?_⟩; have n0_ := Aside0.mk (Kd.S_elder' (by (with_reducible repeat (first | apply Kd.S_alloc | apply Kd.S_drewN | apply Kd.S_drew)); exact HO_10.out) (Kd.S_base ho0) hb); have n1_ := Aside0.mk (Kd.S_lower (Kd.S_new' ho0 (Kd.S_lt (by (with_reducible repeat (first | apply Kd.S_alloc | apply Kd.S_drewN | apply Kd.S_drew)); exact HO_10.out))) (below_size (by repeat (first | (with_reducible first | exact HB.out | apply below_alloc | apply pw_below_drewN | apply below_drew1) | exact HB.out)))); have n2_ := Aside0.mk (below_step (by repeat (first | (with_reducible first | exact HB.out | apply below_alloc | apply pw_below_drewN | apply below_drew1) | exact HB.out)) hb); clear HO_10; clear HB; have HO_10 := n0_; have HO181 := n1_; have HB := n2_; clear n0_ n1_ n2_; (try clear hb); (try clear hb2); (try clear hk); (try clear hi); (try clear ho0); obtain ⟨Ao22, co22, eo22⟩ := Kd.S_slice HO181.out; subst eo22) | ((with_reducible refine gate_callee (f := 48) rfl ?_); refine goesL_ (some 46) rfl rfl Try.func48 (by kernel_rfl) rfl #[.slice Ao15 t174.length co15, .slice Ao22 t179.length co22] rfl (by (try simp only [List.map_toArray, List.map_cons, List.map_nil]); first | done | rfl | (simp only [List.length_drop, List.length_take]; rfl)) ?_; (with_reducible refine (laws_eqIntSS.calls kj9 _ _ t174 _ _ t179 true _ ?side1 ?side2 ?side3 ?side4 A19.out).mono ?_); (case side1 => repeat (first | exact (Kd.S_reads' HO_10.out).2.2 | (with_reducible refine Kd.C_alloc ?_ _) | (with_reducible refine Kd.C_drewN ?_ _) | (with_reducible refine Kd.C_drew ?_))); (case side2 => exact (Kd.S_reads' HO_10.out).2.1); (case side3 => repeat (first | exact (Kd.S_reads' HO181.out).2.2 | (with_reducible refine Kd.C_alloc ?_ _) | (with_reducible refine Kd.C_drewN ?_ _) | (with_reducible refine Kd.C_drew ?_))); (case side4 => exact (Kd.S_reads' HO181.out).2.1); rintro e w' ⟨rfl, ⟨nd, rfl⟩⟩; refine ⟨_, rfl, ?_⟩))
            go_ret
            exact ⟨by first | rfl | (simp [errW_none, errW_some] <;> rfl) | (simp [*, errW_none, errW_some] <;> rfl), by repeat (first | (with_reducible first | exact HB.out | apply below_alloc | apply pw_below_drewN | apply below_drew1) | exact HB.out)⟩
          · replace c20 := Bool.eq_false_iff.mpr c20
            subst c20
            have H1 : (some false) = some r := by rw [if_neg (show ¬ (false = true) by decide)] at H; exact H
            clear H
            have H := H1
            clear H1
            obtain rfl := Option.some.inj H
            go_wp2_with (first | ((with_reducible refine gate_callee (f := 46) rfl ?_); refine goesL_ (some 45) rfl rfl Try.func46 (by kernel_rfl) rfl #[.slice A2 l2.length c2] rfl (by (try simp only [List.map_toArray, List.map_cons, List.map_nil]); first | done | rfl | (simp only [List.length_drop, List.length_take]; rfl)) ?_; (with_reducible refine (laws_toIntSS.calls kj9 _ _ l2 t179 _ ?side1 ?side2 A18.out).mono ?_); (case side1 => repeat (first | exact (Kd.C_below HR2.out HB.out) | (with_reducible refine Kd.C_alloc ?_ _) | (with_reducible refine Kd.C_drewN ?_ _) | (with_reducible refine Kd.C_drew ?_))); (case side2 => exact HC2.out); rintro e w23 ⟨v180, rfl, ho0, hb⟩; refine ⟨_, rfl, ?_⟩; have n0_ := Aside0.mk (Kd.S_elder' (by (with_reducible repeat (first | apply Kd.S_alloc | apply Kd.S_drewN | apply Kd.S_drew)); exact HO_10.out) (Kd.S_base ho0) hb); have n1_ := Aside0.mk (Kd.S_lower (Kd.S_new' ho0 (Kd.S_lt (by (with_reducible repeat (first | apply Kd.S_alloc | apply Kd.S_drewN | apply Kd.S_drew)); exact HO_10.out))) (below_size (by repeat (first | (with_reducible first | exact HB.out | apply below_alloc | apply pw_below_drewN | apply below_drew1) | exact HB.out)))); have n2_ := Aside0.mk (below_step (by repeat (first | (with_reducible first | exact HB.out | apply below_alloc | apply pw_below_drewN | apply below_drew1) | exact HB.out)) hb); clear HO_10; clear HB; have HO_10 := n0_; have HO181 := n1_; have HB := n2_; clear n0_ n1_ n2_; (try clear hb); (try clear hb2); (try clear hk); (try clear hi); (try clear ho0); obtain ⟨Ao24, co24, eo24⟩ := Kd.S_slice HO181.out; subst eo24) | ((with_reducible refine gate_callee (f := 48) rfl ?_); refine goesL_ (some 46) rfl rfl Try.func48 (by kernel_rfl) rfl #[.slice Ao15 t174.length co15, .slice Ao24 t179.length co24] rfl (by (try simp only [List.map_toArray, List.map_cons, List.map_nil]); first | done | rfl | (simp only [List.length_drop, List.length_take]; rfl)) ?_; (with_reducible refine (laws_eqIntSS.calls kj9 _ _ t174 _ _ t179 false _ ?side1 ?side2 ?side3 ?side4 A19.out).mono ?_); (case side1 => repeat (first | exact (Kd.S_reads' HO_10.out).2.2 | (with_reducible refine Kd.C_alloc ?_ _) | (with_reducible refine Kd.C_drewN ?_ _) | (with_reducible refine Kd.C_drew ?_))); (case side2 => exact (Kd.S_reads' HO_10.out).2.1); (case side3 => repeat (first | exact (Kd.S_reads' HO181.out).2.2 | (with_reducible refine Kd.C_alloc ?_ _) | (with_reducible refine Kd.C_drewN ?_ _) | (with_reducible refine Kd.C_drew ?_))); (case side4 => exact (Kd.S_reads' HO181.out).2.1); rintro e w' ⟨rfl, ⟨nd, rfl⟩⟩; refine ⟨_, rfl, ?_⟩))
            go_ret
            exact ⟨by first | rfl | (simp [errW_none, errW_some] <;> rfl) | (simp [*, errW_none, errW_some] <;> rfl), by repeat (first | (with_reducible first | exact HB.out | apply below_alloc | apply pw_below_drewN | apply below_drew1) | exact HB.out)⟩

end Go.Proofs.Ytkoacjepochjaaa.PFnExactFirstImbalance
