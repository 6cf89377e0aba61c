/- This text is this session's own, not the print's: programs (wip/squeeze.py and others) made it out of what print.sh, or wip/ownprint.py, had written (BYTES set higher), its facts said by short words. -/
import Derived.Test.YtagnldmaglbpaaaPFnExactUpdateAllx0
namespace Go.Proofs.Ytagnldmaglbpaaa.PFnExactUpdateAll
open Go.RowKit Go.Proofs.YtagnldmaglbpaaaW.PrintWords Go.Proofs.YtagnldmaglbpaaaW.PrintLast Go.Proofs.YtagnldmaglbpaaaW.PrintMore
attribute [local go_sem] max2_int min2_int max_two min_two max_three min_three max_four min_four   -- for this text's walks alone
set_option linter.unusedVariables false
set_option linter.unusedSimpArgs false

/-! ### impl_areHoles: function 106 -/
theorem bb5x8 {W W' : World} {g b t : Nat} {cs : Array Value} (h : W.heap[b]? = some (.cells cs t (0, 0))) (hn : b ≠ g) (k : (∀ (i0 i1 i2 i3 i4 : Nat) (a0 a1 a2 a3 a4 : Value), (((((W.setCell ⟨g, i0, none⟩ a0).setCell ⟨g, i1, none⟩ a1).setCell ⟨g, i2, none⟩ a2).setCell ⟨g, i3, none⟩ a3).setCell ⟨g, i4, none⟩ a4).heap[b]? = some (.cells cs t (0, 0))) → W'.heap[b]? = some (.cells cs t (0, 0)) := by intro h; (with_reducible repeat (first | refine blk_drewN ?_ _ | refine blk_drew ?_ | refine blk_alloc ?_ _)); exact h _ _ _ _ _ _ _ _ _ _) : W'.heap[b]? = some (.cells cs t (0, 0)) := k (fun i0 i1 i2 i3 i4 a0 a1 a2 a3 a4 => blk_far (p := ⟨g, i4, none⟩) (blk_far (p := ⟨g, i3, none⟩) (blk_far (p := ⟨g, i2, none⟩) (blk_far (p := ⟨g, i1, none⟩) (blk_far (p := ⟨g, i0, none⟩) (h) hn a0) hn a1) hn a2) hn a3) hn a4)
theorem be0x8 {b : Nat} {W0 W W' : World} (h : Below b W0 W) (k : Below b W0 W → Below b W0 W' := by intro h ; repeat (first | (with_reducible first | exact h | apply below_alloc | apply pw_below_drewN | apply below_drew1) | exact h)) : Below b W0 W' := k h 
theorem be1x8 {b : Nat} {W0 W W' : World} {g0 : Nat} (h : Below b W0 W) (q0 : b ≤ g0) (k : Below b W0 W → b ≤ g0 → Below b W0 W' := by intro h q0; repeat (first | (with_reducible first | exact h | apply below_alloc | apply pw_below_drewN | apply below_drew1 | refine below_set ?_ q0) | exact h)) : Below b W0 W' := k h q0
theorem be2x8 {b : Nat} {W0 W W' : World} {g0 g1 : Nat} (h : Below b W0 W) (q0 : b ≤ g0) (q1 : b ≤ g1) (k : Below b W0 W → b ≤ g0 → b ≤ g1 → Below b W0 W' := by intro h q0 q1; repeat (first | (with_reducible first | exact h | apply below_alloc | apply pw_below_drewN | apply below_drew1 | refine below_set ?_ q0 | refine below_set ?_ q1) | exact h)) : Below b W0 W' := k h q0 q1
theorem cf3x8 {W : World} {g t : Nat} {a0 a1 a2 : Value} (h : W.heap[g]? = some (.cells #[a0, a1, a2] t (0, 0))) : W.cell? ⟨g, 0, none⟩ = some a0 ∧ W.cell? ⟨g, 1, none⟩ = some a1 ∧ W.cell? ⟨g, 2, none⟩ = some a2 ∧ W.frozen? ⟨g, 0, none⟩ = false ∧ W.frozen? ⟨g, 1, none⟩ = false ∧ W.frozen? ⟨g, 2, none⟩ = false := ⟨(blk_cell h 0).trans rfl, (blk_cell h 1).trans rfl, (blk_cell h 2).trans rfl, blk_frozen h 0, blk_frozen h 1, blk_frozen h 2⟩
theorem cf5x8 {W : World} {g t : Nat} {a0 a1 a2 a3 a4 : Value} (h : W.heap[g]? = some (.cells #[a0, a1, a2, a3, a4] t (0, 0))) : W.cell? ⟨g, 0, none⟩ = some a0 ∧ W.cell? ⟨g, 1, none⟩ = some a1 ∧ W.cell? ⟨g, 2, none⟩ = some a2 ∧ W.cell? ⟨g, 3, none⟩ = some a3 ∧ W.cell? ⟨g, 4, none⟩ = some a4 ∧ W.frozen? ⟨g, 0, none⟩ = false ∧ W.frozen? ⟨g, 1, none⟩ = false ∧ W.frozen? ⟨g, 2, none⟩ = false ∧ W.frozen? ⟨g, 3, none⟩ = false ∧ W.frozen? ⟨g, 4, none⟩ = false := ⟨(blk_cell h 0).trans rfl, (blk_cell h 1).trans rfl, (blk_cell h 2).trans rfl, (blk_cell h 3).trans rfl, (blk_cell h 4).trans rfl, blk_frozen h 0, blk_frozen h 1, blk_frozen h 2, blk_frozen h 3, blk_frozen h 4⟩
theorem mpx8 {P : Prop} (h : P := by (try simp only [List.map_toArray, List.map_cons, List.map_nil]); first | done | rfl | (simp only [List.length_drop, List.length_take]; rfl)) : P := h
theorem rBx8 {W W' : World} {g t : Nat} {cs : Array Value} (h : W.heap[g]? = some (.cells cs t (0, 0))) (k : W.heap[g]? = some (.cells cs t (0, 0)) → W'.heap[g]? = some (.cells cs t (0, 0)) := by intro h; (with_reducible repeat (first | refine blk_drewN ?_ _ | refine blk_drew ?_ | refine blk_alloc ?_ _)); exact h) : W'.heap[g]? = some (.cells cs t (0, 0)) := k h
def impl_areHoles.l0 : Nat → List (S120) → Int → Int → Int → Int → Int → Option (Bool)
 | 0, _, _, _, _, _, _ => none
 | k + 1, x10, x11, x12, x299000, x299001, x299002 => if x12 < x11 then (if 0 ≤ x12 then (if x12 < (x10.length : Int) then (if ((rd_T120 x10 x12).f0) < 0 then (some false) else (if ((rd_T120 x10 x12).f0) ≥ (wrap64 (10 * x299000)) then (some false) else (if ((rd_T120 x10 x12).f1) < 0 then (some false) else (if ((rd_T120 x10 x12).f1) ≥ (wrap64 (10 * x299001)) then (some false) else (if ((rd_T120 x10 x12).f2) < 0 then (some false) else (if ((rd_T120 x10 x12).f2) ≥ (wrap64 (10 * x299002)) then (some false) else (if ((rd_T120 x10 x12).f3) < 1 then (some false) else (if ((rd_T120 x10 x12).f3) > 1000 then (some false) else (if ((rd_T120 x10 x12).f4) < 0 then (some false) else (if ((rd_T120 x10 x12).f4) > 1000 then (some false) else (impl_areHoles.l0 k x10 x11 (wrap64 (x12 + 1)) x299000 x299001 x299002))))))))))) else (none)) else (none)) else (some true)
def impl_areHoles.f (k : Nat) (a0_0 : Int) (a0_1 : Int) (a0_2 : Int) (l1 : List (S120)) : Option (Bool) := if (l1.length : Int) > 40 then (some false) else (impl_areHoles.l0 k l1 (l1.length : Int) 0 a0_0 a0_1 a0_2)
theorem impl_areHoles.mono_l : ∀ k, (∀ y0 y1 y2 y3 y4 y5, LeO (impl_areHoles.l0 k y0 y1 y2 y3 y4 y5) (impl_areHoles.l0 (k + 1) y0 y1 y2 y3 y4 y5))
 | 0 => fun _ _ _ _ _ _ r h => by simp [impl_areHoles.l0] at h
 | k + 1 => by
  have ih0 := impl_areHoles.mono_l k
  ·intro y0 y1 y2 y3 y4 y5
   unfold impl_areHoles.l0
   repeat' first
   | (with_reducible exact ih0 _ _ _ _ _ _)
   | (with_reducible exact LeO.refl _)
   | (with_reducible exact LeO.none _)
   | (with_reducible refine LeO.ite ?_ ?_)
   | (with_reducible refine LeO.bind ?_ (fun _ => ?_))
   | exact ih0 _ _ _ _ _ _
   | exact LeO.none _
   | refine LeO.ite ?_ ?_
   | refine LeO.bind ?_ (fun _ => ?_)
theorem impl_areHoles.mono : ∀ a0 a1 a2 a3 k, LeO (impl_areHoles.f k a0 a1 a2 a3) (impl_areHoles.f (k + 1) a0 a1 a2 a3) := by
 intro a0 a1 a2 a3 k
 have ih0 := impl_areHoles.mono_l k
 unfold impl_areHoles.f
 repeat' first
   | (with_reducible exact ih0 _ _ _ _ _ _)
   | (with_reducible exact LeO.refl _)
   | (with_reducible exact LeO.none _)
   | (with_reducible refine LeO.ite ?_ ?_)
   | (with_reducible refine LeO.bind ?_ (fun _ => ?_))
   | exact ih0 _ _ _ _ _ _
   | exact LeO.none _
   | refine LeO.ite ?_ ?_
   | refine LeO.bind ?_ (fun _ => ?_)
set_option maxHeartbeats 8000000 in
set_option maxRecDepth 100000 in
theorem impl_areHoles.calls (k : Nat) (a0_0 : Int) (a0_1 : Int) (a0_2 : Int) (A1 : Option Addr) (c1 : Nat) (l1 : List (S120)) (r : Bool) (w : World) (hr1 : Kd.C k120 w A1 l1.length l1) (hc1 : l1.length ≤ c1) (h : impl_areHoles.f k a0_0 a0_1 a0_2 l1 = some r) :
  Calls Try.prog 106 #[.agg #[.int .i64 a0_0, .int .i64 a0_1, .int .i64 a0_2], .slice A1 l1.length c1] w fun e w' => e = .returned (.bool r) ∧ Below w.heap.size w w' := by
 have hu39 := Try.underlying39
 have hu120 := Try.underlying120
 have HR1 := Aside0.mk hr1
 have HC1 := Aside0.mk hc1
 clear hr1 hc1
 have HB := Aside0.mk (Below.refl w.heap.size w)
 have H : (if (l1.length : Int) > 40 then (some false) else (impl_areHoles.l0 k l1 (l1.length : Int) 0 a0_0 a0_1 a0_2)) = some r := h
 clear h
 by_cases c3 : (l1.length : Int) > 40
 ·rw [if_pos c3] at H
  have c3b0 : decide (40 < (l1.length : Int)) = true := decide_eq_true c3
  have c3b1 : decide (40 < l1.length) = true := decide_eq_true (by omega)
  clear c3
  obtain rfl := Option.some.inj H
  go_enter Try.func106, Try.ntmps106
  go_wp2_with (first | ((with_reducible refine gate_dst (N := 2) rfl ?_); refine box_event ?hg (N := 2) ?hd (cs := #[.int .i64 a0_0, .int .i64 a0_1, .int .i64 a0_2]) (t := 39) ?hr ?_; (case hd => rfl); (case hg => rfl); (case hr => first | (go_simp; done) | (go_simp; rfl)); intro gb298 hg w4 hbox hb; have BK298 := Aside0.mk (hbox); have GW298 := Aside0.mk ((by rw [hg]; exact (below_size (be0x8 HB.out)) : w.heap.size ≤ gb298)); have GE298 := Aside0.mk ((by rw [hg]; exact (below_size (be0x8 HB.out)) : w.heap.size ≤ gb298)); replace HB := Aside0.mk (below_step (be0x8 HB.out) hb); clear hb hbox hg))
  go_ret
  exact ⟨by first | rfl | (simp [errW_none, errW_some] <;> rfl) | (simp [*, errW_none, errW_some] <;> rfl), be1x8 HB.out GE298.out⟩
 ·rw [if_neg c3] at H
  have c3b0 : decide (40 < (l1.length : Int)) = false := decide_eq_false c3
  have c3b1 : decide (40 < l1.length) = false := decide_eq_false (by omega)
  clear c3
  have H' := Aside0.mk H
  clear H
  go_enter Try.func106, Try.ntmps106
  go_wp2_with (first | ((with_reducible refine gate_dst (N := 2) rfl ?_); refine box_event ?hg (N := 2) ?hd (cs := #[.int .i64 a0_0, .int .i64 a0_1, .int .i64 a0_2]) (t := 39) ?hr ?_; (case hd => rfl); (case hg => rfl); (case hr => first | (go_simp; done) | (go_simp; rfl)); intro gb298 hg w5 hbox hb; have BK298 := Aside0.mk (hbox); have GW298 := Aside0.mk ((by rw [hg]; exact (below_size (be0x8 HB.out)) : w.heap.size ≤ gb298)); have GE298 := Aside0.mk ((by rw [hg]; exact (below_size (be0x8 HB.out)) : w.heap.size ≤ gb298)); replace HB := Aside0.mk (below_step (be0x8 HB.out) hb); clear hb hbox hg))
  go_loopg [12] k (fun kq v12 w' => ∃ (x12_1 : Int), v12 = .int .i64 x12_1 ∧ Aside0 (impl_areHoles.l0 kq l1 (l1.length : Int) x12_1 a0_0 a0_1 a0_2 = some r) ∧ Aside0 (kq ≤ k) ∧ Aside0 (w'.heap[gb298]? = some (.cells #[.int .i64 a0_0, .int .i64 a0_1, .int .i64 a0_2] 39 (0, 0))) ∧ Aside0 (Below w.heap.size w w'))
  case atStart => exact ⟨(0), (by first | rfl | (simp; done) | (simp [*]; done)), H', ⟨Nat.le_refl _⟩, ⟨rBx8 BK298.out⟩, ⟨be1x8 HB.out GE298.out⟩⟩
  case round =>
   clear H'
   try clear c1; try clear c3; try clear c3b0; try clear c3b1
   obtain ⟨x12_1, rfl, HA, HK1, BK298, HB⟩ := hrel
   cases gk with
   | zero => exact absurd HA.out (by simp [impl_areHoles.l0])
   | succ k1 =>
    have H := HA.out
    clear HA
    simp only [impl_areHoles.l0] at H
    by_cases c6 : x12_1 < (l1.length : Int)
    ·rw [if_pos c6] at H
     have c6b0 : decide (x12_1 < (l1.length : Int)) = true := decide_eq_true c6
     clear c6
     by_cases c7 : 0 ≤ x12_1
     ·rw [if_pos c7] at H
      have c7b0 : decide (0 ≤ x12_1) = true := decide_eq_true c7
      clear c7
      by_cases c8 : x12_1 < (l1.length : Int)
      ·rw [if_pos c8] at H
       have c8b0 : decide (x12_1 < (l1.length : Int)) = true := decide_eq_true c8
       clear c8
       by_cases c9 : ((rd_T120 l1 x12_1).f0) < 0
       ·rw [if_pos c9] at H
        have c9b0 : decide (((rd_T120 l1 x12_1).f0) < 0) = true := decide_eq_true c9
        clear c9
        obtain rfl := Option.some.inj H
        have p299 : 0 ≤ (x12_1 : Int) := of_decide_eq_true (by first | (with_reducible assumption) | assumption)
        have q299 : x12_1 < (l1.length : Int) := of_decide_eq_true (by first | (with_reducible assumption) | assumption)
        obtain ⟨ad299, e299, hx299_0, hx299_1, hx299_2, hx299_3, hx299_4⟩ := at_T120 HR1.out x12_1 p299 q299
        cases e299
        replace hx299_0 := (HB.out.cell (World.block_lt_of_cell? w _ hx299_0)).trans hx299_0
        replace hx299_1 := (HB.out.cell (World.block_lt_of_cell? w _ hx299_1)).trans hx299_1
        replace hx299_2 := (HB.out.cell (World.block_lt_of_cell? w _ hx299_2)).trans hx299_2
        replace hx299_3 := (HB.out.cell (World.block_lt_of_cell? w _ hx299_3)).trans hx299_3
        replace hx299_4 := (HB.out.cell (World.block_lt_of_cell? w _ hx299_4)).trans hx299_4
        replace p299 := eq_true p299
        replace q299 := eq_true q299
        go_wp2_with (first | ((with_reducible refine gate_dst (N := 6) rfl ?_); refine box_event ?hg (N := 6) ?hd (cs := #[.int .i64 0, .int .i64 0, .int .i64 0, .int .i64 0, .int .i64 0]) (t := 120) ?hr ?_; (case hd => rfl); (case hg => rfl); (case hr => first | (go_simp; done) | (go_simp; rfl)); intro gb300 hg w10 hbox hb; have BK300 := Aside0.mk (hbox); have GW300 := Aside0.mk ((by rw [hg]; exact (below_size (be1x8 HB.out GE298.out)) : w.heap.size ≤ gb300)); have GE300 := Aside0.mk ((by rw [hg]; exact (below_size (be1x8 HB.out GE298.out)) : w.heap.size ≤ gb300)); replace HB := Aside0.mk (below_step (be1x8 HB.out GE298.out) hb); have NB298_300 := Aside0.mk ((by rw [hg]; exact Nat.ne_of_lt (blk_lt (rBx8 BK298.out)) : gb298 ≠ gb300)); have NB300_298 := Aside0.mk ((by rw [hg]; exact Nat.ne_of_gt (blk_lt (rBx8 BK298.out)) : gb300 ≠ gb298)); replace BK298 := Aside0.mk (blk_below (rBx8 BK298.out) hb); clear hb hbox hg; have hnb11 := NB300_298.out; have hnc11 := NB298_300.out; obtain ⟨hcz12_0, hcz12_1, hcz12_2, hcz12_3, hcz12_4, hfz12_0, hfz12_1, hfz12_2, hfz12_3, hfz12_4⟩ := cf5x8 BK300.out))
        go_ret
        exact ⟨by first | rfl | (simp [errW_none, errW_some] <;> rfl) | (simp [*, errW_none, errW_some] <;> rfl), be2x8 HB.out GE298.out GE300.out⟩
       ·rw [if_neg c9] at H
        have c9b0 : decide (((rd_T120 l1 x12_1).f0) < 0) = false := decide_eq_false c9
        clear c9
        by_cases c13 : ((rd_T120 l1 x12_1).f0) ≥ (wrap64 (10 * a0_0))
        ·rw [if_pos c13] at H
         have c13b0 : decide ((wrap64 (10 * a0_0)) ≤ ((rd_T120 l1 x12_1).f0)) = true := decide_eq_true c13
         clear c13
         obtain rfl := Option.some.inj H
         have p299 : 0 ≤ (x12_1 : Int) := of_decide_eq_true (by first | (with_reducible assumption) | assumption)
         have q299 : x12_1 < (l1.length : Int) := of_decide_eq_true (by first | (with_reducible assumption) | assumption)
         obtain ⟨ad299, e299, hx299_0, hx299_1, hx299_2, hx299_3, hx299_4⟩ := at_T120 HR1.out x12_1 p299 q299
         cases e299
         replace hx299_0 := (HB.out.cell (World.block_lt_of_cell? w _ hx299_0)).trans hx299_0
         replace hx299_1 := (HB.out.cell (World.block_lt_of_cell? w _ hx299_1)).trans hx299_1
         replace hx299_2 := (HB.out.cell (World.block_lt_of_cell? w _ hx299_2)).trans hx299_2
         replace hx299_3 := (HB.out.cell (World.block_lt_of_cell? w _ hx299_3)).trans hx299_3
         replace hx299_4 := (HB.out.cell (World.block_lt_of_cell? w _ hx299_4)).trans hx299_4
         replace p299 := eq_true p299
         replace q299 := eq_true q299
         go_wp2_with (first | ((with_reducible refine gate_dst (N := 6) rfl ?_); refine box_event ?hg (N := 6) ?hd (cs := #[.int .i64 0, .int .i64 0, .int .i64 0, .int .i64 0, .int .i64 0]) (t := 120) ?hr ?_; (case hd => rfl); (case hg => rfl); (case hr => first | (go_simp; done) | (go_simp; rfl)); intro gb300 hg w14 hbox hb; have BK300 := Aside0.mk (hbox); have GW300 := Aside0.mk ((by rw [hg]; exact (below_size (be1x8 HB.out GE298.out)) : w.heap.size ≤ gb300)); have GE300 := Aside0.mk ((by rw [hg]; exact (below_size (be1x8 HB.out GE298.out)) : w.heap.size ≤ gb300)); replace HB := Aside0.mk (below_step (be1x8 HB.out GE298.out) hb); have NB298_300 := Aside0.mk ((by rw [hg]; exact Nat.ne_of_lt (blk_lt (rBx8 BK298.out)) : gb298 ≠ gb300)); have NB300_298 := Aside0.mk ((by rw [hg]; exact Nat.ne_of_gt (blk_lt (rBx8 BK298.out)) : gb300 ≠ gb298)); replace BK298 := Aside0.mk (blk_below (rBx8 BK298.out) hb); clear hb hbox hg; have hnb15 := NB300_298.out; have hnc15 := NB298_300.out; obtain ⟨hcz16_0, hcz16_1, hcz16_2, hcz16_3, hcz16_4, hfz16_0, hfz16_1, hfz16_2, hfz16_3, hfz16_4⟩ := cf5x8 BK300.out; obtain ⟨hcz17_0, hcz17_1, hcz17_2, hfz17_0, hfz17_1, hfz17_2⟩ := cf3x8 BK298.out))
         go_ret
         exact ⟨by first | rfl | (simp [errW_none, errW_some] <;> rfl) | (simp [*, errW_none, errW_some] <;> rfl), be2x8 HB.out GE298.out GE300.out⟩
        ·rw [if_neg c13] at H
         have c13b0 : decide ((wrap64 (10 * a0_0)) ≤ ((rd_T120 l1 x12_1).f0)) = false := decide_eq_false c13
         clear c13
         by_cases c18 : ((rd_T120 l1 x12_1).f1) < 0
         ·rw [if_pos c18] at H
          have c18b0 : decide (((rd_T120 l1 x12_1).f1) < 0) = true := decide_eq_true c18
          clear c18
          obtain rfl := Option.some.inj H
          have p299 : 0 ≤ (x12_1 : Int) := of_decide_eq_true (by first | (with_reducible assumption) | assumption)
          have q299 : x12_1 < (l1.length : Int) := of_decide_eq_true (by first | (with_reducible assumption) | assumption)
          obtain ⟨ad299, e299, hx299_0, hx299_1, hx299_2, hx299_3, hx299_4⟩ := at_T120 HR1.out x12_1 p299 q299
          cases e299
          replace hx299_0 := (HB.out.cell (World.block_lt_of_cell? w _ hx299_0)).trans hx299_0
          replace hx299_1 := (HB.out.cell (World.block_lt_of_cell? w _ hx299_1)).trans hx299_1
          replace hx299_2 := (HB.out.cell (World.block_lt_of_cell? w _ hx299_2)).trans hx299_2
          replace hx299_3 := (HB.out.cell (World.block_lt_of_cell? w _ hx299_3)).trans hx299_3
          replace hx299_4 := (HB.out.cell (World.block_lt_of_cell? w _ hx299_4)).trans hx299_4
          replace p299 := eq_true p299
          replace q299 := eq_true q299
          go_wp2_with (first | ((with_reducible refine gate_dst (N := 6) rfl ?_); refine box_event ?hg (N := 6) ?hd (cs := #[.int .i64 0, .int .i64 0, .int .i64 0, .int .i64 0, .int .i64 0]) (t := 120) ?hr ?_; (case hd => rfl); (case hg => rfl); (case hr => first | (go_simp; done) | (go_simp; rfl)); intro gb300 hg w19 hbox hb; have BK300 := Aside0.mk (hbox); have GW300 := Aside0.mk ((by rw [hg]; exact (below_size (be1x8 HB.out GE298.out)) : w.heap.size ≤ gb300)); have GE300 := Aside0.mk ((by rw [hg]; exact (below_size (be1x8 HB.out GE298.out)) : w.heap.size ≤ gb300)); replace HB := Aside0.mk (below_step (be1x8 HB.out GE298.out) hb); have NB298_300 := Aside0.mk ((by rw [hg]; exact Nat.ne_of_lt (blk_lt (rBx8 BK298.out)) : gb298 ≠ gb300)); have NB300_298 := Aside0.mk ((by rw [hg]; exact Nat.ne_of_gt (blk_lt (rBx8 BK298.out)) : gb300 ≠ gb298)); replace BK298 := Aside0.mk (blk_below (rBx8 BK298.out) hb); clear hb hbox hg; have hnb20 := NB300_298.out; have hnc20 := NB298_300.out; obtain ⟨hcz21_0, hcz21_1, hcz21_2, hcz21_3, hcz21_4, hfz21_0, hfz21_1, hfz21_2, hfz21_3, hfz21_4⟩ := cf5x8 BK300.out; obtain ⟨hcz22_0, hcz22_1, hcz22_2, hfz22_0, hfz22_1, hfz22_2⟩ := cf3x8 BK298.out))
          go_ret
          exact ⟨by first | rfl | (simp [errW_none, errW_some] <;> rfl) | (simp [*, errW_none, errW_some] <;> rfl), be2x8 HB.out GE298.out GE300.out⟩
         ·rw [if_neg c18] at H
          have c18b0 : decide (((rd_T120 l1 x12_1).f1) < 0) = false := decide_eq_false c18
          clear c18
          by_cases c23 : ((rd_T120 l1 x12_1).f1) ≥ (wrap64 (10 * a0_1))
          ·rw [if_pos c23] at H
           have c23b0 : decide ((wrap64 (10 * a0_1)) ≤ ((rd_T120 l1 x12_1).f1)) = true := decide_eq_true c23
           clear c23
           obtain rfl := Option.some.inj H
           have p299 : 0 ≤ (x12_1 : Int) := of_decide_eq_true (by first | (with_reducible assumption) | assumption)
           have q299 : x12_1 < (l1.length : Int) := of_decide_eq_true (by first | (with_reducible assumption) | assumption)
           obtain ⟨ad299, e299, hx299_0, hx299_1, hx299_2, hx299_3, hx299_4⟩ := at_T120 HR1.out x12_1 p299 q299
           cases e299
           replace hx299_0 := (HB.out.cell (World.block_lt_of_cell? w _ hx299_0)).trans hx299_0
           replace hx299_1 := (HB.out.cell (World.block_lt_of_cell? w _ hx299_1)).trans hx299_1
           replace hx299_2 := (HB.out.cell (World.block_lt_of_cell? w _ hx299_2)).trans hx299_2
           replace hx299_3 := (HB.out.cell (World.block_lt_of_cell? w _ hx299_3)).trans hx299_3
           replace hx299_4 := (HB.out.cell (World.block_lt_of_cell? w _ hx299_4)).trans hx299_4
           replace p299 := eq_true p299
           replace q299 := eq_true q299
           go_wp2_with (first | ((with_reducible refine gate_dst (N := 6) rfl ?_); refine box_event ?hg (N := 6) ?hd (cs := #[.int .i64 0, .int .i64 0, .int .i64 0, .int .i64 0, .int .i64 0]) (t := 120) ?hr ?_; (case hd => rfl); (case hg => rfl); (case hr => first | (go_simp; done) | (go_simp; rfl)); intro gb300 hg w24 hbox hb; have BK300 := Aside0.mk (hbox); have GW300 := Aside0.mk ((by rw [hg]; exact (below_size (be1x8 HB.out GE298.out)) : w.heap.size ≤ gb300)); have GE300 := Aside0.mk ((by rw [hg]; exact (below_size (be1x8 HB.out GE298.out)) : w.heap.size ≤ gb300)); replace HB := Aside0.mk (below_step (be1x8 HB.out GE298.out) hb); have NB298_300 := Aside0.mk ((by rw [hg]; exact Nat.ne_of_lt (blk_lt (rBx8 BK298.out)) : gb298 ≠ gb300)); have NB300_298 := Aside0.mk ((by rw [hg]; exact Nat.ne_of_gt (blk_lt (rBx8 BK298.out)) : gb300 ≠ gb298)); replace BK298 := Aside0.mk (blk_below (rBx8 BK298.out) hb); clear hb hbox hg; have hnb25 := NB300_298.out; have hnc25 := NB298_300.out; obtain ⟨hcz26_0, hcz26_1, hcz26_2, hcz26_3, hcz26_4, hfz26_0, hfz26_1, hfz26_2, hfz26_3, hfz26_4⟩ := cf5x8 BK300.out; obtain ⟨hcz27_0, hcz27_1, hcz27_2, hfz27_0, hfz27_1, hfz27_2⟩ := cf3x8 BK298.out))
           go_ret
           exact ⟨by first | rfl | (simp [errW_none, errW_some] <;> rfl) | (simp [*, errW_none, errW_some] <;> rfl), be2x8 HB.out GE298.out GE300.out⟩
          ·rw [if_neg c23] at H
           have c23b0 : decide ((wrap64 (10 * a0_1)) ≤ ((rd_T120 l1 x12_1).f1)) = false := decide_eq_false c23
           clear c23
           by_cases c28 : ((rd_T120 l1 x12_1).f2) < 0
           ·rw [if_pos c28] at H
            have c28b0 : decide (((rd_T120 l1 x12_1).f2) < 0) = true := decide_eq_true c28
            clear c28
            obtain rfl := Option.some.inj H
            have p299 : 0 ≤ (x12_1 : Int) := of_decide_eq_true (by first | (with_reducible assumption) | assumption)
            have q299 : x12_1 < (l1.length : Int) := of_decide_eq_true (by first | (with_reducible assumption) | assumption)
            obtain ⟨ad299, e299, hx299_0, hx299_1, hx299_2, hx299_3, hx299_4⟩ := at_T120 HR1.out x12_1 p299 q299
            cases e299
            replace hx299_0 := (HB.out.cell (World.block_lt_of_cell? w _ hx299_0)).trans hx299_0
            replace hx299_1 := (HB.out.cell (World.block_lt_of_cell? w _ hx299_1)).trans hx299_1
            replace hx299_2 := (HB.out.cell (World.block_lt_of_cell? w _ hx299_2)).trans hx299_2
            replace hx299_3 := (HB.out.cell (World.block_lt_of_cell? w _ hx299_3)).trans hx299_3
            replace hx299_4 := (HB.out.cell (World.block_lt_of_cell? w _ hx299_4)).trans hx299_4
            replace p299 := eq_true p299
            replace q299 := eq_true q299
            go_wp2_with (first | ((with_reducible refine gate_dst (N := 6) rfl ?_); refine box_event ?hg (N := 6) ?hd (cs := #[.int .i64 0, .int .i64 0, .int .i64 0, .int .i64 0, .int .i64 0]) (t := 120) ?hr ?_; (case hd => rfl); (case hg => rfl); (case hr => first | (go_simp; done) | (go_simp; rfl)); intro gb300 hg w29 hbox hb; have BK300 := Aside0.mk (hbox); have GW300 := Aside0.mk ((by rw [hg]; exact (below_size (be1x8 HB.out GE298.out)) : w.heap.size ≤ gb300)); have GE300 := Aside0.mk ((by rw [hg]; exact (below_size (be1x8 HB.out GE298.out)) : w.heap.size ≤ gb300)); replace HB := Aside0.mk (below_step (be1x8 HB.out GE298.out) hb); have NB298_300 := Aside0.mk ((by rw [hg]; exact Nat.ne_of_lt (blk_lt (rBx8 BK298.out)) : gb298 ≠ gb300)); have NB300_298 := Aside0.mk ((by rw [hg]; exact Nat.ne_of_gt (blk_lt (rBx8 BK298.out)) : gb300 ≠ gb298)); replace BK298 := Aside0.mk (blk_below (rBx8 BK298.out) hb); clear hb hbox hg; have hnb30 := NB300_298.out; have hnc30 := NB298_300.out; obtain ⟨hcz31_0, hcz31_1, hcz31_2, hcz31_3, hcz31_4, hfz31_0, hfz31_1, hfz31_2, hfz31_3, hfz31_4⟩ := cf5x8 BK300.out; obtain ⟨hcz32_0, hcz32_1, hcz32_2, hfz32_0, hfz32_1, hfz32_2⟩ := cf3x8 BK298.out))
            go_ret
            exact ⟨by first | rfl | (simp [errW_none, errW_some] <;> rfl) | (simp [*, errW_none, errW_some] <;> rfl), be2x8 HB.out GE298.out GE300.out⟩
           ·rw [if_neg c28] at H
            have c28b0 : decide (((rd_T120 l1 x12_1).f2) < 0) = false := decide_eq_false c28
            clear c28
            by_cases c33 : ((rd_T120 l1 x12_1).f2) ≥ (wrap64 (10 * a0_2))
            ·rw [if_pos c33] at H
             have c33b0 : decide ((wrap64 (10 * a0_2)) ≤ ((rd_T120 l1 x12_1).f2)) = true := decide_eq_true c33
             clear c33
             obtain rfl := Option.some.inj H
             have p299 : 0 ≤ (x12_1 : Int) := of_decide_eq_true (by first | (with_reducible assumption) | assumption)
             have q299 : x12_1 < (l1.length : Int) := of_decide_eq_true (by first | (with_reducible assumption) | assumption)
             obtain ⟨ad299, e299, hx299_0, hx299_1, hx299_2, hx299_3, hx299_4⟩ := at_T120 HR1.out x12_1 p299 q299
             cases e299
             replace hx299_0 := (HB.out.cell (World.block_lt_of_cell? w _ hx299_0)).trans hx299_0
             replace hx299_1 := (HB.out.cell (World.block_lt_of_cell? w _ hx299_1)).trans hx299_1
             replace hx299_2 := (HB.out.cell (World.block_lt_of_cell? w _ hx299_2)).trans hx299_2
             replace hx299_3 := (HB.out.cell (World.block_lt_of_cell? w _ hx299_3)).trans hx299_3
             replace hx299_4 := (HB.out.cell (World.block_lt_of_cell? w _ hx299_4)).trans hx299_4
             replace p299 := eq_true p299
             replace q299 := eq_true q299
             go_wp2_with (first | ((with_reducible refine gate_dst (N := 6) rfl ?_); refine box_event ?hg (N := 6) ?hd (cs := #[.int .i64 0, .int .i64 0, .int .i64 0, .int .i64 0, .int .i64 0]) (t := 120) ?hr ?_; (case hd => rfl); (case hg => rfl); (case hr => first | (go_simp; done) | (go_simp; rfl)); intro gb300 hg w34 hbox hb; have BK300 := Aside0.mk (hbox); have GW300 := Aside0.mk ((by rw [hg]; exact (below_size (be1x8 HB.out GE298.out)) : w.heap.size ≤ gb300)); have GE300 := Aside0.mk ((by rw [hg]; exact (below_size (be1x8 HB.out GE298.out)) : w.heap.size ≤ gb300)); replace HB := Aside0.mk (below_step (be1x8 HB.out GE298.out) hb); have NB298_300 := Aside0.mk ((by rw [hg]; exact Nat.ne_of_lt (blk_lt (rBx8 BK298.out)) : gb298 ≠ gb300)); have NB300_298 := Aside0.mk ((by rw [hg]; exact Nat.ne_of_gt (blk_lt (rBx8 BK298.out)) : gb300 ≠ gb298)); replace BK298 := Aside0.mk (blk_below (rBx8 BK298.out) hb); clear hb hbox hg; have hnb35 := NB300_298.out; have hnc35 := NB298_300.out; obtain ⟨hcz36_0, hcz36_1, hcz36_2, hcz36_3, hcz36_4, hfz36_0, hfz36_1, hfz36_2, hfz36_3, hfz36_4⟩ := cf5x8 BK300.out; obtain ⟨hcz37_0, hcz37_1, hcz37_2, hfz37_0, hfz37_1, hfz37_2⟩ := cf3x8 BK298.out))
             go_ret
             exact ⟨by first | rfl | (simp [errW_none, errW_some] <;> rfl) | (simp [*, errW_none, errW_some] <;> rfl), be2x8 HB.out GE298.out GE300.out⟩
            ·rw [if_neg c33] at H
             have c33b0 : decide ((wrap64 (10 * a0_2)) ≤ ((rd_T120 l1 x12_1).f2)) = false := decide_eq_false c33
             clear c33
             by_cases c38 : ((rd_T120 l1 x12_1).f3) < 1
             ·rw [if_pos c38] at H
              have c38b0 : decide (((rd_T120 l1 x12_1).f3) < 1) = true := decide_eq_true c38
              clear c38
              obtain rfl := Option.some.inj H
              have p299 : 0 ≤ (x12_1 : Int) := of_decide_eq_true (by first | (with_reducible assumption) | assumption)
              have q299 : x12_1 < (l1.length : Int) := of_decide_eq_true (by first | (with_reducible assumption) | assumption)
              obtain ⟨ad299, e299, hx299_0, hx299_1, hx299_2, hx299_3, hx299_4⟩ := at_T120 HR1.out x12_1 p299 q299
              cases e299
              replace hx299_0 := (HB.out.cell (World.block_lt_of_cell? w _ hx299_0)).trans hx299_0
              replace hx299_1 := (HB.out.cell (World.block_lt_of_cell? w _ hx299_1)).trans hx299_1
              replace hx299_2 := (HB.out.cell (World.block_lt_of_cell? w _ hx299_2)).trans hx299_2
              replace hx299_3 := (HB.out.cell (World.block_lt_of_cell? w _ hx299_3)).trans hx299_3
              replace hx299_4 := (HB.out.cell (World.block_lt_of_cell? w _ hx299_4)).trans hx299_4
              replace p299 := eq_true p299
              replace q299 := eq_true q299
              go_wp2_with (first | ((with_reducible refine gate_dst (N := 6) rfl ?_); refine box_event ?hg (N := 6) ?hd (cs := #[.int .i64 0, .int .i64 0, .int .i64 0, .int .i64 0, .int .i64 0]) (t := 120) ?hr ?_; (case hd => rfl); (case hg => rfl); (case hr => first | (go_simp; done) | (go_simp; rfl)); intro gb300 hg w39 hbox hb; have BK300 := Aside0.mk (hbox); have GW300 := Aside0.mk ((by rw [hg]; exact (below_size (be1x8 HB.out GE298.out)) : w.heap.size ≤ gb300)); have GE300 := Aside0.mk ((by rw [hg]; exact (below_size (be1x8 HB.out GE298.out)) : w.heap.size ≤ gb300)); replace HB := Aside0.mk (below_step (be1x8 HB.out GE298.out) hb); have NB298_300 := Aside0.mk ((by rw [hg]; exact Nat.ne_of_lt (blk_lt (rBx8 BK298.out)) : gb298 ≠ gb300)); have NB300_298 := Aside0.mk ((by rw [hg]; exact Nat.ne_of_gt (blk_lt (rBx8 BK298.out)) : gb300 ≠ gb298)); replace BK298 := Aside0.mk (blk_below (rBx8 BK298.out) hb); clear hb hbox hg; have hnb40 := NB300_298.out; have hnc40 := NB298_300.out; obtain ⟨hcz41_0, hcz41_1, hcz41_2, hcz41_3, hcz41_4, hfz41_0, hfz41_1, hfz41_2, hfz41_3, hfz41_4⟩ := cf5x8 BK300.out; obtain ⟨hcz42_0, hcz42_1, hcz42_2, hfz42_0, hfz42_1, hfz42_2⟩ := cf3x8 BK298.out))
              go_ret
              exact ⟨by first | rfl | (simp [errW_none, errW_some] <;> rfl) | (simp [*, errW_none, errW_some] <;> rfl), be2x8 HB.out GE298.out GE300.out⟩
             ·rw [if_neg c38] at H
              have c38b0 : decide (((rd_T120 l1 x12_1).f3) < 1) = false := decide_eq_false c38
              clear c38
              by_cases c43 : ((rd_T120 l1 x12_1).f3) > 1000
              ·rw [if_pos c43] at H
               have c43b0 : decide (1000 < ((rd_T120 l1 x12_1).f3)) = true := decide_eq_true c43
               clear c43
               obtain rfl := Option.some.inj H
               have p299 : 0 ≤ (x12_1 : Int) := of_decide_eq_true (by first | (with_reducible assumption) | assumption)
               have q299 : x12_1 < (l1.length : Int) := of_decide_eq_true (by first | (with_reducible assumption) | assumption)
               obtain ⟨ad299, e299, hx299_0, hx299_1, hx299_2, hx299_3, hx299_4⟩ := at_T120 HR1.out x12_1 p299 q299
               cases e299
               replace hx299_0 := (HB.out.cell (World.block_lt_of_cell? w _ hx299_0)).trans hx299_0
               replace hx299_1 := (HB.out.cell (World.block_lt_of_cell? w _ hx299_1)).trans hx299_1
               replace hx299_2 := (HB.out.cell (World.block_lt_of_cell? w _ hx299_2)).trans hx299_2
               replace hx299_3 := (HB.out.cell (World.block_lt_of_cell? w _ hx299_3)).trans hx299_3
               replace hx299_4 := (HB.out.cell (World.block_lt_of_cell? w _ hx299_4)).trans hx299_4
               replace p299 := eq_true p299
               replace q299 := eq_true q299
               go_wp2_with (first | ((with_reducible refine gate_dst (N := 6) rfl ?_); refine box_event ?hg (N := 6) ?hd (cs := #[.int .i64 0, .int .i64 0, .int .i64 0, .int .i64 0, .int .i64 0]) (t := 120) ?hr ?_; (case hd => rfl); (case hg => rfl); (case hr => first | (go_simp; done) | (go_simp; rfl)); intro gb300 hg w44 hbox hb; have BK300 := Aside0.mk (hbox); have GW300 := Aside0.mk ((by rw [hg]; exact (below_size (be1x8 HB.out GE298.out)) : w.heap.size ≤ gb300)); have GE300 := Aside0.mk ((by rw [hg]; exact (below_size (be1x8 HB.out GE298.out)) : w.heap.size ≤ gb300)); replace HB := Aside0.mk (below_step (be1x8 HB.out GE298.out) hb); have NB298_300 := Aside0.mk ((by rw [hg]; exact Nat.ne_of_lt (blk_lt (rBx8 BK298.out)) : gb298 ≠ gb300)); have NB300_298 := Aside0.mk ((by rw [hg]; exact Nat.ne_of_gt (blk_lt (rBx8 BK298.out)) : gb300 ≠ gb298)); replace BK298 := Aside0.mk (blk_below (rBx8 BK298.out) hb); clear hb hbox hg; have hnb45 := NB300_298.out; have hnc45 := NB298_300.out; obtain ⟨hcz46_0, hcz46_1, hcz46_2, hcz46_3, hcz46_4, hfz46_0, hfz46_1, hfz46_2, hfz46_3, hfz46_4⟩ := cf5x8 BK300.out; obtain ⟨hcz47_0, hcz47_1, hcz47_2, hfz47_0, hfz47_1, hfz47_2⟩ := cf3x8 BK298.out))
               go_ret
               exact ⟨by first | rfl | (simp [errW_none, errW_some] <;> rfl) | (simp [*, errW_none, errW_some] <;> rfl), be2x8 HB.out GE298.out GE300.out⟩
              ·rw [if_neg c43] at H
               have c43b0 : decide (1000 < ((rd_T120 l1 x12_1).f3)) = false := decide_eq_false c43
               clear c43
               by_cases c48 : ((rd_T120 l1 x12_1).f4) < 0
               ·rw [if_pos c48] at H
                have c48b0 : decide (((rd_T120 l1 x12_1).f4) < 0) = true := decide_eq_true c48
                clear c48
                obtain rfl := Option.some.inj H
                have p299 : 0 ≤ (x12_1 : Int) := of_decide_eq_true (by first | (with_reducible assumption) | assumption)
                have q299 : x12_1 < (l1.length : Int) := of_decide_eq_true (by first | (with_reducible assumption) | assumption)
                obtain ⟨ad299, e299, hx299_0, hx299_1, hx299_2, hx299_3, hx299_4⟩ := at_T120 HR1.out x12_1 p299 q299
                cases e299
                replace hx299_0 := (HB.out.cell (World.block_lt_of_cell? w _ hx299_0)).trans hx299_0
                replace hx299_1 := (HB.out.cell (World.block_lt_of_cell? w _ hx299_1)).trans hx299_1
                replace hx299_2 := (HB.out.cell (World.block_lt_of_cell? w _ hx299_2)).trans hx299_2
                replace hx299_3 := (HB.out.cell (World.block_lt_of_cell? w _ hx299_3)).trans hx299_3
                replace hx299_4 := (HB.out.cell (World.block_lt_of_cell? w _ hx299_4)).trans hx299_4
                replace p299 := eq_true p299
                replace q299 := eq_true q299
                go_wp2_with (first | ((with_reducible refine gate_dst (N := 6) rfl ?_); refine box_event ?hg (N := 6) ?hd (cs := #[.int .i64 0, .int .i64 0, .int .i64 0, .int .i64 0, .int .i64 0]) (t := 120) ?hr ?_; (case hd => rfl); (case hg => rfl); (case hr => first | (go_simp; done) | (go_simp; rfl)); intro gb300 hg w49 hbox hb; have BK300 := Aside0.mk (hbox); have GW300 := Aside0.mk ((by rw [hg]; exact (below_size (be1x8 HB.out GE298.out)) : w.heap.size ≤ gb300)); have GE300 := Aside0.mk ((by rw [hg]; exact (below_size (be1x8 HB.out GE298.out)) : w.heap.size ≤ gb300)); replace HB := Aside0.mk (below_step (be1x8 HB.out GE298.out) hb); have NB298_300 := Aside0.mk ((by rw [hg]; exact Nat.ne_of_lt (blk_lt (rBx8 BK298.out)) : gb298 ≠ gb300)); have NB300_298 := Aside0.mk ((by rw [hg]; exact Nat.ne_of_gt (blk_lt (rBx8 BK298.out)) : gb300 ≠ gb298)); replace BK298 := Aside0.mk (blk_below (rBx8 BK298.out) hb); clear hb hbox hg; have hnb50 := NB300_298.out; have hnc50 := NB298_300.out; obtain ⟨hcz51_0, hcz51_1, hcz51_2, hcz51_3, hcz51_4, hfz51_0, hfz51_1, hfz51_2, hfz51_3, hfz51_4⟩ := cf5x8 BK300.out; obtain ⟨hcz52_0, hcz52_1, hcz52_2, hfz52_0, hfz52_1, hfz52_2⟩ := cf3x8 BK298.out))
                go_ret
                exact ⟨by first | rfl | (simp [errW_none, errW_some] <;> rfl) | (simp [*, errW_none, errW_some] <;> rfl), be2x8 HB.out GE298.out GE300.out⟩
               ·rw [if_neg c48] at H
                have c48b0 : decide (((rd_T120 l1 x12_1).f4) < 0) = false := decide_eq_false c48
                clear c48
                by_cases c53 : ((rd_T120 l1 x12_1).f4) > 1000
                ·rw [if_pos c53] at H
                 have c53b0 : decide (1000 < ((rd_T120 l1 x12_1).f4)) = true := decide_eq_true c53
                 clear c53
                 obtain rfl := Option.some.inj H
                 have p299 : 0 ≤ (x12_1 : Int) := of_decide_eq_true (by first | (with_reducible assumption) | assumption)
                 have q299 : x12_1 < (l1.length : Int) := of_decide_eq_true (by first | (with_reducible assumption) | assumption)
                 obtain ⟨ad299, e299, hx299_0, hx299_1, hx299_2, hx299_3, hx299_4⟩ := at_T120 HR1.out x12_1 p299 q299
                 cases e299
                 replace hx299_0 := (HB.out.cell (World.block_lt_of_cell? w _ hx299_0)).trans hx299_0
                 replace hx299_1 := (HB.out.cell (World.block_lt_of_cell? w _ hx299_1)).trans hx299_1
                 replace hx299_2 := (HB.out.cell (World.block_lt_of_cell? w _ hx299_2)).trans hx299_2
                 replace hx299_3 := (HB.out.cell (World.block_lt_of_cell? w _ hx299_3)).trans hx299_3
                 replace hx299_4 := (HB.out.cell (World.block_lt_of_cell? w _ hx299_4)).trans hx299_4
                 replace p299 := eq_true p299
                 replace q299 := eq_true q299
                 go_wp2_with (first | ((with_reducible refine gate_dst (N := 6) rfl ?_); refine box_event ?hg (N := 6) ?hd (cs := #[.int .i64 0, .int .i64 0, .int .i64 0, .int .i64 0, .int .i64 0]) (t := 120) ?hr ?_; (case hd => rfl); (case hg => rfl); (case hr => first | (go_simp; done) | (go_simp; rfl)); intro gb300 hg w54 hbox hb; have BK300 := Aside0.mk (hbox); have GW300 := Aside0.mk ((by rw [hg]; exact (below_size (be1x8 HB.out GE298.out)) : w.heap.size ≤ gb300)); have GE300 := Aside0.mk ((by rw [hg]; exact (below_size (be1x8 HB.out GE298.out)) : w.heap.size ≤ gb300)); replace HB := Aside0.mk (below_step (be1x8 HB.out GE298.out) hb); have NB298_300 := Aside0.mk ((by rw [hg]; exact Nat.ne_of_lt (blk_lt (rBx8 BK298.out)) : gb298 ≠ gb300)); have NB300_298 := Aside0.mk ((by rw [hg]; exact Nat.ne_of_gt (blk_lt (rBx8 BK298.out)) : gb300 ≠ gb298)); replace BK298 := Aside0.mk (blk_below (rBx8 BK298.out) hb); clear hb hbox hg; have hnb55 := NB300_298.out; have hnc55 := NB298_300.out; obtain ⟨hcz56_0, hcz56_1, hcz56_2, hcz56_3, hcz56_4, hfz56_0, hfz56_1, hfz56_2, hfz56_3, hfz56_4⟩ := cf5x8 BK300.out; obtain ⟨hcz57_0, hcz57_1, hcz57_2, hfz57_0, hfz57_1, hfz57_2⟩ := cf3x8 BK298.out))
                 go_ret
                 exact ⟨by first | rfl | (simp [errW_none, errW_some] <;> rfl) | (simp [*, errW_none, errW_some] <;> rfl), be2x8 HB.out GE298.out GE300.out⟩
                ·rw [if_neg c53] at H
                 have c53b0 : decide (1000 < ((rd_T120 l1 x12_1).f4)) = false := decide_eq_false c53
                 clear c53
                 have H' := Aside0.mk H
                 clear H
                 have p299 : 0 ≤ (x12_1 : Int) := of_decide_eq_true (by first | (with_reducible assumption) | assumption)
                 have q299 : x12_1 < (l1.length : Int) := of_decide_eq_true (by first | (with_reducible assumption) | assumption)
                 obtain ⟨ad299, e299, hx299_0, hx299_1, hx299_2, hx299_3, hx299_4⟩ := at_T120 HR1.out x12_1 p299 q299
                 cases e299
                 replace hx299_0 := (HB.out.cell (World.block_lt_of_cell? w _ hx299_0)).trans hx299_0
                 replace hx299_1 := (HB.out.cell (World.block_lt_of_cell? w _ hx299_1)).trans hx299_1
                 replace hx299_2 := (HB.out.cell (World.block_lt_of_cell? w _ hx299_2)).trans hx299_2
                 replace hx299_3 := (HB.out.cell (World.block_lt_of_cell? w _ hx299_3)).trans hx299_3
                 replace hx299_4 := (HB.out.cell (World.block_lt_of_cell? w _ hx299_4)).trans hx299_4
                 replace p299 := eq_true p299
                 replace q299 := eq_true q299
                 go_wp2_with (first | ((with_reducible refine gate_dst (N := 6) rfl ?_); refine box_event ?hg (N := 6) ?hd (cs := #[.int .i64 0, .int .i64 0, .int .i64 0, .int .i64 0, .int .i64 0]) (t := 120) ?hr ?_; (case hd => rfl); (case hg => rfl); (case hr => first | (go_simp; done) | (go_simp; rfl)); intro gb300 hg w58 hbox hb; have BK300 := Aside0.mk (hbox); have GW300 := Aside0.mk ((by rw [hg]; exact (below_size (be1x8 HB.out GE298.out)) : w.heap.size ≤ gb300)); have GE300 := Aside0.mk ((by rw [hg]; exact (below_size (be1x8 HB.out GE298.out)) : w.heap.size ≤ gb300)); replace HB := Aside0.mk (below_step (be1x8 HB.out GE298.out) hb); have NB298_300 := Aside0.mk ((by rw [hg]; exact Nat.ne_of_lt (blk_lt (rBx8 BK298.out)) : gb298 ≠ gb300)); have NB300_298 := Aside0.mk ((by rw [hg]; exact Nat.ne_of_gt (blk_lt (rBx8 BK298.out)) : gb300 ≠ gb298)); replace BK298 := Aside0.mk (blk_below (rBx8 BK298.out) hb); clear hb hbox hg; have hnb59 := NB300_298.out; have hnc59 := NB298_300.out; obtain ⟨hcz60_0, hcz60_1, hcz60_2, hcz60_3, hcz60_4, hfz60_0, hfz60_1, hfz60_2, hfz60_3, hfz60_4⟩ := cf5x8 BK300.out; obtain ⟨hcz61_0, hcz61_1, hcz61_2, hfz61_0, hfz61_1, hfz61_2⟩ := cf3x8 BK298.out))
                 go_roundg k1
                 case measure => have := HK1.out; omega
                 case rel => exact ⟨(wrap64 (x12_1 + 1)), (by first | rfl | (simp; done) | (simp [*]; done)), H', ⟨by have := HK1.out; omega⟩, ⟨(bb5x8 BK298.out NB298_300.out)⟩, ⟨be2x8 HB.out GE298.out GE300.out⟩⟩
      ·rw [if_neg c8] at H
       exact absurd H (by simp)
     ·rw [if_neg c7] at H
      exact absurd H (by simp)
    ·rw [if_neg c6] at H
     have c6b0 : decide (x12_1 < (l1.length : Int)) = false := decide_eq_false c6
     clear c6
     obtain rfl := Option.some.inj H
     go_wp2
     go_ret
     exact ⟨by first | rfl | (simp [errW_none, errW_some] <;> rfl) | (simp [*, errW_none, errW_some] <;> rfl), be1x8 HB.out GE298.out⟩

/-! ### impl_abs: function 98 -/
def impl_abs.f (a0 : Int) : Option (Int) := some (mx a0 (wrap64 (-a0)))
set_option maxHeartbeats 8000000 in
set_option maxRecDepth 100000 in
theorem impl_abs.calls (a0 : Int) (r : Int) (w : World) (h : impl_abs.f a0 = some r) :
  Calls Try.prog 98 #[.int .i64 a0] w fun e w' => e = .returned (.int .i64 r) ∧ Below w.heap.size w w' := by
 have HB := Aside0.mk (Below.refl w.heap.size w)
 have H : (some (mx a0 (wrap64 (-a0)))) = some r := h
 clear h
 obtain ⟨ji2, hji2⟩ : ∃ j_ : Int, (mx a0 (wrap64 (-a0))) = j_ := ⟨_, rfl⟩
 replace H : (some ji2) = some r := by first | (rw [hji2] at H; exact H) | (simp only [hji2] at H ⊢; exact H)
 have hji2_ : (if a0 < (wrap64 (-a0)) then (wrap64 (-a0)) else a0) = ji2 := hji2
 obtain rfl := Option.some.inj H
 go_enter Try.func98, Try.ntmps98
 go_wp2
 go_ret
 exact ⟨by first | rfl | (simp [errW_none, errW_some] <;> rfl) | (simp only [← hji2]; first | rfl | (simp [errW_none, errW_some] <;> rfl)) | (simp [*, errW_none, errW_some] <;> rfl), be0x8 HB.out⟩

/-! ### impl_lowest: function 95 -/
def impl_lowest.l0 : Nat → Int → Int → Int → Int → Option (Int × Int)
 | 0, _, _, _, _ => none
 | k + 1, x0, x1, x6, x7 => if x7 = 0 then (if x6 = 0 then (none) else (some (wrap64 (Int.tdiv x0 x6), wrap64 (Int.tdiv x1 x6)))) else (impl_lowest.l0 k x0 x1 x7 (Int.tmod x6 x7))
def impl_lowest.f (k : Nat) (a0 : Int) (a1 : Int) : Option (Int × Int) := (impl_abs.f a0).bind fun t301 => (impl_lowest.l0 k a0 a1 t301 a1)
theorem impl_lowest.mono_l : ∀ k, (∀ y0 y1 y2 y3, LeO (impl_lowest.l0 k y0 y1 y2 y3) (impl_lowest.l0 (k + 1) y0 y1 y2 y3))
 | 0 => fun _ _ _ _ r h => by simp [impl_lowest.l0] at h
 | k + 1 => by
  have ih0 := impl_lowest.mono_l k
  ·intro y0 y1 y2 y3
   unfold impl_lowest.l0
   repeat' first
   | (with_reducible exact ih0 _ _ _ _)
   | (with_reducible exact LeO.refl _)
   | (with_reducible exact LeO.none _)
   | (with_reducible refine LeO.ite ?_ ?_)
   | (with_reducible refine LeO.bind ?_ (fun _ => ?_))
   | exact ih0 _ _ _ _
   | exact LeO.none _
   | refine LeO.ite ?_ ?_
   | refine LeO.bind ?_ (fun _ => ?_)
theorem impl_lowest.mono : ∀ a0 a1 k, LeO (impl_lowest.f k a0 a1) (impl_lowest.f (k + 1) a0 a1) := by
 intro a0 a1 k
 have ih0 := impl_lowest.mono_l k
 unfold impl_lowest.f
 repeat' first
   | (with_reducible exact ih0 _ _ _ _)
   | (with_reducible exact LeO.refl _)
   | (with_reducible exact LeO.none _)
   | (with_reducible refine LeO.ite ?_ ?_)
   | (with_reducible refine LeO.bind ?_ (fun _ => ?_))
   | exact ih0 _ _ _ _
   | exact LeO.none _
   | refine LeO.ite ?_ ?_
   | refine LeO.bind ?_ (fun _ => ?_)
set_option maxHeartbeats 8000000 in
set_option maxRecDepth 100000 in
theorem impl_lowest.calls (k : Nat) (a0 : Int) (a1 : Int) (r1 : Int) (r2 : Int) (w : World) (h : impl_lowest.f k a0 a1 = some (r1, r2)) :
  Calls Try.prog 95 #[.int .i64 a0, .int .i64 a1] w fun e w' => e = .returned (.tuple #[.int .i64 r1, .int .i64 r2]) ∧ Below w.heap.size w w' := by
 have HB := Aside0.mk (Below.refl w.heap.size w)
 have H : ((impl_abs.f a0).bind fun t301 => (impl_lowest.l0 k a0 a1 t301 a1)) = some (r1, r2) := h
 clear h
 replace H := Option.bind_eq_some_iff.mp H
 obtain ⟨t301, A30, H⟩ := H
 have A3 := Aside0.mk A30
 clear A30
 have H' := Aside0.mk H
 clear H
 go_enter Try.func95, Try.ntmps95
 go_wp2_with (first | (go_at_call 98; (with_reducible refine (impl_abs.calls a0 t301 _ A3.out).mono ?_); rintro e w4 ⟨rfl, hb⟩; replace HB := Aside0.mk (below_step (be0x8 HB.out) hb); (try clear hb); (try clear hb2); (try clear hk); (try clear hi)))
 repeat (go_quiet (first | (go_at_call 98; (with_reducible refine (impl_abs.calls a0 t301 _ A3.out).mono ?_); rintro e w4 ⟨rfl, hb⟩; replace HB := Aside0.mk (below_step (be0x8 HB.out) hb); (try clear hb); (try clear hb2); (try clear hk); (try clear hi))); try go_wp2_with (first | (go_at_call 98; (with_reducible refine (impl_abs.calls a0 t301 _ A3.out).mono ?_); rintro e w4 ⟨rfl, hb⟩; replace HB := Aside0.mk (below_step (be0x8 HB.out) hb); (try clear hb); (try clear hb2); (try clear hk); (try clear hi))))
 go_loopg [6, 7] k (fun kq v6 v7 w' => ∃ (x6_1 : Int) (x7_1 : Int), v6 = .int .i64 x6_1 ∧ v7 = .int .i64 x7_1 ∧ Aside0 (impl_lowest.l0 kq a0 a1 x6_1 x7_1 = some (r1, r2)) ∧ Aside0 (kq ≤ k) ∧ Aside0 (Below w.heap.size w w'))
 case atStart => exact ⟨(t301), (a1), (by first | rfl | (simp; done) | (simp [*]; done)), (by first | rfl | (simp; done) | (simp [*]; done)), H', ⟨Nat.le_refl _⟩, ⟨be0x8 HB.out⟩⟩
 case round =>
  clear H'
  obtain ⟨x6_1, x7_1, rfl, rfl, HA, HK1, HB⟩ := hrel
  cases gk with
  | zero => exact absurd HA.out (by simp [impl_lowest.l0])
  | succ k1 =>
   have H := HA.out
   clear HA
   simp only [impl_lowest.l0] at H
   by_cases c5 : x7_1 = 0
   ·rw [if_pos c5] at H
    have c5b0 : (x7_1 == 0) = true := beq_iff_eq.mpr c5
    have c5b1 : (x7_1 != 0) = false := bne_eq_false_iff_eq.mpr c5
    clear c5
    by_cases c6 : x6_1 = 0
    ·rw [if_pos c6] at H
     exact absurd H (by simp)
    ·rw [if_neg c6] at H
     have c6b0 : (x6_1 == 0) = false := beq_eq_false_iff_ne.mpr c6
     have c6b1 : (x6_1 != 0) = true := bne_iff_ne.mpr c6
     simp only [Option.some.injEq, Prod.mk.injEq] at H
     obtain ⟨rfl, rfl⟩ := H
     go_wp2
     repeat (go_quiet (fail); try go_wp2)
     go_ret2
     exact ⟨by first | rfl | (simp [errW_none, errW_some] <;> rfl) | (simp [*, errW_none, errW_some] <;> rfl), be0x8 HB.out⟩
   ·rw [if_neg c5] at H
    have c5b0 : (x7_1 == 0) = false := beq_eq_false_iff_ne.mpr c5
    have c5b1 : (x7_1 != 0) = true := bne_iff_ne.mpr c5
    have H' := Aside0.mk H
    clear H
    go_wp2
    repeat (go_quiet (fail); try go_wp2)
    go_roundg k1
    case measure => have := HK1.out; omega
    case rel => exact ⟨(x7_1), (Int.tmod x6_1 x7_1), (by first | rfl | (simp; done) | (simp [*]; done)), (by first | rfl | (simp; done) | (simp [*]; done)), H', ⟨by have := HK1.out; omega⟩, ⟨be0x8 HB.out⟩⟩

/-! ### impl_blockAt: function 146 -/
def impl_blockAt.f (a0_0 : Int) (a0_1 : Int) (a0_2 : Int) (a1 : Int) (a2 : Int) (a3 : Int) : Option (Int) := some (wrap64 ((wrap64 ((wrap64 ((wrap64 (a3 * a0_1)) + a2)) * a0_0)) + a1))
set_option maxHeartbeats 8000000 in
set_option maxRecDepth 100000 in
theorem impl_blockAt.calls (a0_0 : Int) (a0_1 : Int) (a0_2 : Int) (a1 : Int) (a2 : Int) (a3 : Int) (r : Int) (w : World) (h : impl_blockAt.f a0_0 a0_1 a0_2 a1 a2 a3 = some r) :
  Calls Try.prog 146 #[.agg #[.int .i64 a0_0, .int .i64 a0_1, .int .i64 a0_2], .int .i64 a1, .int .i64 a2, .int .i64 a3] w fun e w' => e = .returned (.int .i64 r) ∧ Below w.heap.size w w' := by
 have hu39 := Try.underlying39
 have HB := Aside0.mk (Below.refl w.heap.size w)
 have H : (some (wrap64 ((wrap64 ((wrap64 ((wrap64 (a3 * a0_1)) + a2)) * a0_0)) + a1))) = some r := h
 clear h
 obtain rfl := Option.some.inj H
 go_enter Try.func146, Try.ntmps146
 go_wp2_with (first | ((with_reducible refine gate_dst (N := 4) rfl ?_); refine box_event ?hg (N := 4) ?hd (cs := #[.int .i64 a0_0, .int .i64 a0_1, .int .i64 a0_2]) (t := 39) ?hr ?_; (case hd => rfl); (case hg => rfl); (case hr => first | (go_simp; done) | (go_simp; rfl)); intro gb302 hg w5 hbox hb; have BK302 := Aside0.mk (hbox); have GW302 := Aside0.mk ((by rw [hg]; exact (below_size (be0x8 HB.out)) : w.heap.size ≤ gb302)); have GE302 := Aside0.mk ((by rw [hg]; exact (below_size (be0x8 HB.out)) : w.heap.size ≤ gb302)); replace HB := Aside0.mk (below_step (be0x8 HB.out) hb); clear hb hbox hg; obtain ⟨hcz6_0, hcz6_1, hcz6_2, hfz6_0, hfz6_1, hfz6_2⟩ := cf3x8 BK302.out))
 go_ret
 exact ⟨by first | rfl | (simp [errW_none, errW_some] <;> rfl) | (simp [*, errW_none, errW_some] <;> rfl), be1x8 HB.out GE302.out⟩

/-! ### impl_blockOfHole: function 137 -/
def impl_blockOfHole.f (a0_0 : Int) (a0_1 : Int) (a0_2 : Int) (a1_0 : Int) (a1_1 : Int) (a1_2 : Int) (a1_3 : Int) (a1_4 : Int) : Option (Int) := (impl_blockAt.f a0_0 a0_1 a0_2 (wrap64 (Int.tdiv a1_0 10)) (wrap64 (Int.tdiv a1_1 10)) (wrap64 (Int.tdiv a1_2 10))).bind fun t305 => (some t305)
set_option maxHeartbeats 8000000 in
set_option maxRecDepth 100000 in
theorem impl_blockOfHole.calls (a0_0 : Int) (a0_1 : Int) (a0_2 : Int) (a1_0 : Int) (a1_1 : Int) (a1_2 : Int) (a1_3 : Int) (a1_4 : Int) (r : Int) (w : World) (h : impl_blockOfHole.f a0_0 a0_1 a0_2 a1_0 a1_1 a1_2 a1_3 a1_4 = some r) :
  Calls Try.prog 137 #[.agg #[.int .i64 a0_0, .int .i64 a0_1, .int .i64 a0_2], .agg #[.int .i64 a1_0, .int .i64 a1_1, .int .i64 a1_2, .int .i64 a1_3, .int .i64 a1_4]] w fun e w' => e = .returned (.int .i64 r) ∧ Below w.heap.size w w' := by
 have hu39 := Try.underlying39
 have hu120 := Try.underlying120
 have HB := Aside0.mk (Below.refl w.heap.size w)
 have H : ((impl_blockAt.f a0_0 a0_1 a0_2 (wrap64 (Int.tdiv a1_0 10)) (wrap64 (Int.tdiv a1_1 10)) (wrap64 (Int.tdiv a1_2 10))).bind fun t305 => (some t305)) = some r := h
 clear h
 replace H := Option.bind_eq_some_iff.mp H
 obtain ⟨t305, A30, H⟩ := H
 have A3 := Aside0.mk A30
 clear A30
 obtain rfl := Option.some.inj H
 go_enter Try.func137, Try.ntmps137
 go_wp2_with (first | ((with_reducible refine gate_dst (N := 2) rfl ?_); refine box_event ?hg (N := 2) ?hd (cs := #[.int .i64 a0_0, .int .i64 a0_1, .int .i64 a0_2]) (t := 39) ?hr ?_; (case hd => rfl); (case hg => rfl); (case hr => first | (go_simp; done) | (go_simp; rfl)); intro gb303 hg w4 hbox hb; have BK303 := Aside0.mk (hbox); have GW303 := Aside0.mk ((by rw [hg]; exact (below_size (be0x8 HB.out)) : w.heap.size ≤ gb303)); have GE303 := Aside0.mk ((by rw [hg]; exact (below_size (be0x8 HB.out)) : w.heap.size ≤ gb303)); replace HB := Aside0.mk (below_step (be0x8 HB.out) hb); clear hb hbox hg) | ((with_reducible refine gate_dst (N := 3) rfl ?_); refine box_event ?hg (N := 3) ?hd (cs := #[.int .i64 a1_0, .int .i64 a1_1, .int .i64 a1_2, .int .i64 a1_3, .int .i64 a1_4]) (t := 120) ?hr ?_; (case hd => rfl); (case hg => rfl); (case hr => first | (go_simp; done) | (go_simp; rfl)); intro gb304 hg w5 hbox hb; have BK304 := Aside0.mk (hbox); have GW304 := Aside0.mk ((by rw [hg]; exact (below_size (be1x8 HB.out GE303.out)) : w.heap.size ≤ gb304)); have GE304 := Aside0.mk ((by rw [hg]; exact (below_size (be1x8 HB.out GE303.out)) : w.heap.size ≤ gb304)); replace HB := Aside0.mk (below_step (be1x8 HB.out GE303.out) hb); have NB303_304 := Aside0.mk ((by rw [hg]; exact Nat.ne_of_lt (blk_lt (rBx8 BK303.out)) : gb303 ≠ gb304)); have NB304_303 := Aside0.mk ((by rw [hg]; exact Nat.ne_of_gt (blk_lt (rBx8 BK303.out)) : gb304 ≠ gb303)); replace BK303 := Aside0.mk (blk_below (rBx8 BK303.out) hb); clear hb hbox hg; have hnb6 := NB303_304.out; have hnc6 := NB304_303.out; obtain ⟨hcz7_0, hcz7_1, hcz7_2, hfz7_0, hfz7_1, hfz7_2⟩ := cf3x8 BK303.out; obtain ⟨hcz8_0, hcz8_1, hcz8_2, hcz8_3, hcz8_4, hfz8_0, hfz8_1, hfz8_2, hfz8_3, hfz8_4⟩ := cf5x8 BK304.out) | ((with_reducible refine gate_callee (f := 146) rfl ?_); refine goesL_ (some 15) rfl rfl Try.func146 (by kernel_rfl) rfl #[.agg #[.int .i64 a0_0, .int .i64 a0_1, .int .i64 a0_2], .int .i64 (wrap64 (Int.tdiv a1_0 10)), .int .i64 (wrap64 (Int.tdiv a1_1 10)), .int .i64 (wrap64 (Int.tdiv a1_2 10))] rfl mpx8 ?_; (with_reducible refine (impl_blockAt.calls a0_0 a0_1 a0_2 (wrap64 (Int.tdiv a1_0 10)) (wrap64 (Int.tdiv a1_1 10)) (wrap64 (Int.tdiv a1_2 10)) t305 _ A3.out).mono ?_); rintro e w9 ⟨rfl, hb⟩; refine ⟨_, rfl, ?_⟩; replace BK303 := Aside0.mk (blk_below (rBx8 BK303.out) hb); replace BK304 := Aside0.mk (blk_below (rBx8 BK304.out) hb); replace HB := Aside0.mk (below_step (be2x8 HB.out GE303.out GE304.out) hb); (try clear hb); (try clear hb2); (try clear hk); (try clear hi)))
 go_ret
 exact ⟨by first | rfl | (simp [errW_none, errW_some] <;> rfl) | (simp [*, errW_none, errW_some] <;> rfl), be2x8 HB.out GE303.out GE304.out⟩

/-! ### impl_placeOf: function 151 -/
def impl_placeOf.f (a0_0 : Int) (a0_1 : Int) (a0_2 : Int) (a1 : Int) : Option (Int × Int × Int) := if a0_0 = 0 then (none) else (if a0_1 = 0 then (none) else (some (Int.tmod a1 a0_0, Int.tmod (wrap64 (Int.tdiv a1 a0_0)) a0_1, wrap64 (Int.tdiv (wrap64 (Int.tdiv a1 a0_0)) a0_1))))
set_option maxHeartbeats 8000000 in
set_option maxRecDepth 100000 in
theorem impl_placeOf.calls (a0_0 : Int) (a0_1 : Int) (a0_2 : Int) (a1 : Int) (r1 : Int) (r2 : Int) (r3 : Int) (w : World) (h : impl_placeOf.f a0_0 a0_1 a0_2 a1 = some (r1, r2, r3)) :
  Calls Try.prog 151 #[.agg #[.int .i64 a0_0, .int .i64 a0_1, .int .i64 a0_2], .int .i64 a1] w fun e w' => e = .returned (.tuple #[.int .i64 r1, .int .i64 r2, .int .i64 r3]) ∧ Below w.heap.size w w' := by
 have hu39 := Try.underlying39
 have HB := Aside0.mk (Below.refl w.heap.size w)
 have H : (if a0_0 = 0 then (none) else (if a0_1 = 0 then (none) else (some (Int.tmod a1 a0_0, Int.tmod (wrap64 (Int.tdiv a1 a0_0)) a0_1, wrap64 (Int.tdiv (wrap64 (Int.tdiv a1 a0_0)) a0_1))))) = some (r1, r2, r3) := h
 clear h
 by_cases c3 : a0_0 = 0
 ·rw [if_pos c3] at H
  exact absurd H (by simp)
 ·rw [if_neg c3] at H
  have c3b0 : (a0_0 == 0) = false := beq_eq_false_iff_ne.mpr c3
  have c3b1 : (a0_0 != 0) = true := bne_iff_ne.mpr c3
  by_cases c4 : a0_1 = 0
  ·rw [if_pos c4] at H
   exact absurd H (by simp)
  ·rw [if_neg c4] at H
   have c4b0 : (a0_1 == 0) = false := beq_eq_false_iff_ne.mpr c4
   have c4b1 : (a0_1 != 0) = true := bne_iff_ne.mpr c4
   simp only [Option.some.injEq, Prod.mk.injEq] at H
   obtain ⟨rfl, rfl, rfl⟩ := H
   go_enter Try.func151, Try.ntmps151
   go_wp2_with (first | ((with_reducible refine gate_dst (N := 2) rfl ?_); refine box_event ?hg (N := 2) ?hd (cs := #[.int .i64 a0_0, .int .i64 a0_1, .int .i64 a0_2]) (t := 39) ?hr ?_; (case hd => rfl); (case hg => rfl); (case hr => first | (go_simp; done) | (go_simp; rfl)); intro gb306 hg w5 hbox hb; have BK306 := Aside0.mk (hbox); have GW306 := Aside0.mk ((by rw [hg]; exact (below_size (be0x8 HB.out)) : w.heap.size ≤ gb306)); have GE306 := Aside0.mk ((by rw [hg]; exact (below_size (be0x8 HB.out)) : w.heap.size ≤ gb306)); replace HB := Aside0.mk (below_step (be0x8 HB.out) hb); clear hb hbox hg; obtain ⟨hcz6_0, hcz6_1, hcz6_2, hfz6_0, hfz6_1, hfz6_2⟩ := cf3x8 BK306.out))
   repeat (go_quiet (first | ((with_reducible refine gate_dst (N := 2) rfl ?_); refine box_event ?hg (N := 2) ?hd (cs := #[.int .i64 a0_0, .int .i64 a0_1, .int .i64 a0_2]) (t := 39) ?hr ?_; (case hd => rfl); (case hg => rfl); (case hr => first | (go_simp; done) | (go_simp; rfl)); intro gb306 hg w5 hbox hb; have BK306 := Aside0.mk (hbox); have GW306 := Aside0.mk ((by rw [hg]; exact (below_size (be0x8 HB.out)) : w.heap.size ≤ gb306)); have GE306 := Aside0.mk ((by rw [hg]; exact (below_size (be0x8 HB.out)) : w.heap.size ≤ gb306)); replace HB := Aside0.mk (below_step (be0x8 HB.out) hb); clear hb hbox hg; obtain ⟨hcz6_0, hcz6_1, hcz6_2, hfz6_0, hfz6_1, hfz6_2⟩ := cf3x8 BK306.out)); try go_wp2_with (first | ((with_reducible refine gate_dst (N := 2) rfl ?_); refine box_event ?hg (N := 2) ?hd (cs := #[.int .i64 a0_0, .int .i64 a0_1, .int .i64 a0_2]) (t := 39) ?hr ?_; (case hd => rfl); (case hg => rfl); (case hr => first | (go_simp; done) | (go_simp; rfl)); intro gb306 hg w5 hbox hb; have BK306 := Aside0.mk (hbox); have GW306 := Aside0.mk ((by rw [hg]; exact (below_size (be0x8 HB.out)) : w.heap.size ≤ gb306)); have GE306 := Aside0.mk ((by rw [hg]; exact (below_size (be0x8 HB.out)) : w.heap.size ≤ gb306)); replace HB := Aside0.mk (below_step (be0x8 HB.out) hb); clear hb hbox hg; obtain ⟨hcz6_0, hcz6_1, hcz6_2, hfz6_0, hfz6_1, hfz6_2⟩ := cf3x8 BK306.out)))
   go_ret3
   exact ⟨by first | rfl | (simp [errW_none, errW_some] <;> rfl) | (simp [*, errW_none, errW_some] <;> rfl), be1x8 HB.out GE306.out⟩

/-! ### impl_stepsBetween: function 141 -/
def impl_stepsBetween.f (a0_0 : Int) (a0_1 : Int) (a0_2 : Int) (a1 : Int) (a2 : Int) : Option (Int) := (impl_placeOf.f a0_0 a0_1 a0_2 a1).bind fun bt308 => ((impl_placeOf.f a0_0 a0_1 a0_2 a2).bind fun bt311 => ((impl_abs.f (wrap64 (bt311.1 - bt308.1))).bind fun t314 => ((impl_abs.f (wrap64 (bt311.2.1 - bt308.2.1))).bind fun t315 => ((impl_abs.f (wrap64 (bt311.2.2 - bt308.2.2))).bind fun t316 => (some (wrap64 ((wrap64 (t314 + t315)) + t316)))))))
set_option maxHeartbeats 8000000 in
set_option maxRecDepth 100000 in
theorem impl_stepsBetween.calls (a0_0 : Int) (a0_1 : Int) (a0_2 : Int) (a1 : Int) (a2 : Int) (r : Int) (w : World) (h : impl_stepsBetween.f a0_0 a0_1 a0_2 a1 a2 = some r) :
  Calls Try.prog 141 #[.agg #[.int .i64 a0_0, .int .i64 a0_1, .int .i64 a0_2], .int .i64 a1, .int .i64 a2] w fun e w' => e = .returned (.int .i64 r) ∧ Below w.heap.size w w' := by
 have hu39 := Try.underlying39
 have HB := Aside0.mk (Below.refl w.heap.size w)
 have H : ((impl_placeOf.f a0_0 a0_1 a0_2 a1).bind fun bt308 => ((impl_placeOf.f a0_0 a0_1 a0_2 a2).bind fun bt311 => ((impl_abs.f (wrap64 (bt311.1 - bt308.1))).bind fun t314 => ((impl_abs.f (wrap64 (bt311.2.1 - bt308.2.1))).bind fun t315 => ((impl_abs.f (wrap64 (bt311.2.2 - bt308.2.2))).bind fun t316 => (some (wrap64 ((wrap64 (t314 + t315)) + t316)))))))) = some r := h
 clear h
 replace H := Option.bind_eq_some_iff.mp H
 obtain ⟨⟨t308, t309, t310⟩, A40, H⟩ := H
 (try dsimp only at H)
 have A4 := Aside0.mk A40
 clear A40
 replace H := Option.bind_eq_some_iff.mp H
 obtain ⟨⟨t311, t312, t313⟩, A50, H⟩ := H
 (try dsimp only at H)
 have A5 := Aside0.mk A50
 clear A50
 replace H := Option.bind_eq_some_iff.mp H
 obtain ⟨t314, A60, H⟩ := H
 have A6 := Aside0.mk A60
 clear A60
 replace H := Option.bind_eq_some_iff.mp H
 obtain ⟨t315, A70, H⟩ := H
 have A7 := Aside0.mk A70
 clear A70
 replace H := Option.bind_eq_some_iff.mp H
 obtain ⟨t316, A80, H⟩ := H
 have A8 := Aside0.mk A80
 clear A80
 obtain rfl := Option.some.inj H
 go_enter Try.func141, Try.ntmps141
 go_wp2_with (first | ((with_reducible refine gate_dst (N := 3) rfl ?_); refine box_event ?hg (N := 3) ?hd (cs := #[.int .i64 a0_0, .int .i64 a0_1, .int .i64 a0_2]) (t := 39) ?hr ?_; (case hd => rfl); (case hg => rfl); (case hr => first | (go_simp; done) | (go_simp; rfl)); intro gb307 hg w9 hbox hb; have BK307 := Aside0.mk (hbox); have GW307 := Aside0.mk ((by rw [hg]; exact (below_size (be0x8 HB.out)) : w.heap.size ≤ gb307)); have GE307 := Aside0.mk ((by rw [hg]; exact (below_size (be0x8 HB.out)) : w.heap.size ≤ gb307)); replace HB := Aside0.mk (below_step (be0x8 HB.out) hb); clear hb hbox hg; obtain ⟨hcz10_0, hcz10_1, hcz10_2, hfz10_0, hfz10_1, hfz10_2⟩ := cf3x8 BK307.out) | ((with_reducible refine gate_callee (f := 151) rfl ?_); refine goesL_ (some 16) rfl rfl Try.func151 (by kernel_rfl) rfl #[.agg #[.int .i64 a0_0, .int .i64 a0_1, .int .i64 a0_2], .int .i64 a1] rfl mpx8 ?_; (with_reducible refine (impl_placeOf.calls a0_0 a0_1 a0_2 a1 t308 t309 t310 _ A4.out).mono ?_); rintro e w11 ⟨rfl, hb⟩; refine ⟨_, rfl, ?_⟩; replace BK307 := Aside0.mk (blk_below (rBx8 BK307.out) hb); replace HB := Aside0.mk (below_step (be1x8 HB.out GE307.out) hb); (try clear hb); (try clear hb2); (try clear hk); (try clear hi); obtain ⟨hcz12_0, hcz12_1, hcz12_2, hfz12_0, hfz12_1, hfz12_2⟩ := cf3x8 BK307.out) | ((with_reducible refine gate_callee (f := 151) rfl ?_); refine goesL_ (some 23) rfl rfl Try.func151 (by kernel_rfl) rfl #[.agg #[.int .i64 a0_0, .int .i64 a0_1, .int .i64 a0_2], .int .i64 a2] rfl mpx8 ?_; (with_reducible refine (impl_placeOf.calls a0_0 a0_1 a0_2 a2 t311 t312 t313 _ A5.out).mono ?_); rintro e w13 ⟨rfl, hb⟩; refine ⟨_, rfl, ?_⟩; replace BK307 := Aside0.mk (blk_below (rBx8 BK307.out) hb); replace HB := Aside0.mk (below_step (be1x8 HB.out GE307.out) hb); (try clear hb); (try clear hb2); (try clear hk); (try clear hi)) | ((with_reducible refine gate_callee (f := 98) rfl ?_); refine goesL_ (some 30) rfl rfl Try.func98 (by kernel_rfl) rfl #[.int .i64 (wrap64 (t311 - t308))] rfl mpx8 ?_; (with_reducible refine (impl_abs.calls (wrap64 (t311 - t308)) t314 _ A6.out).mono ?_); rintro e w14 ⟨rfl, hb⟩; refine ⟨_, rfl, ?_⟩; replace BK307 := Aside0.mk (blk_below (rBx8 BK307.out) hb); replace HB := Aside0.mk (below_step (be1x8 HB.out GE307.out) hb); (try clear hb); (try clear hb2); (try clear hk); (try clear hi)) | ((with_reducible refine gate_callee (f := 98) rfl ?_); refine goesL_ (some 34) rfl rfl Try.func98 (by kernel_rfl) rfl #[.int .i64 (wrap64 (t312 - t309))] rfl mpx8 ?_; (with_reducible refine (impl_abs.calls (wrap64 (t312 - t309)) t315 _ A7.out).mono ?_); rintro e w15 ⟨rfl, hb⟩; refine ⟨_, rfl, ?_⟩; replace BK307 := Aside0.mk (blk_below (rBx8 BK307.out) hb); replace HB := Aside0.mk (below_step (be1x8 HB.out GE307.out) hb); (try clear hb); (try clear hb2); (try clear hk); (try clear hi)) | ((with_reducible refine gate_callee (f := 98) rfl ?_); refine goesL_ (some 39) rfl rfl Try.func98 (by kernel_rfl) rfl #[.int .i64 (wrap64 (t313 - t310))] rfl mpx8 ?_; (with_reducible refine (impl_abs.calls (wrap64 (t313 - t310)) t316 _ A8.out).mono ?_); rintro e w16 ⟨rfl, hb⟩; refine ⟨_, rfl, ?_⟩; replace BK307 := Aside0.mk (blk_below (rBx8 BK307.out) hb); replace HB := Aside0.mk (below_step (be1x8 HB.out GE307.out) hb); (try clear hb); (try clear hb2); (try clear hk); (try clear hi)))
 go_ret
 exact ⟨by first | rfl | (simp [errW_none, errW_some] <;> rfl) | (simp [*, errW_none, errW_some] <;> rfl), be1x8 HB.out GE307.out⟩

end Go.Proofs.Ytagnldmaglbpaaa.PFnExactUpdateAll
