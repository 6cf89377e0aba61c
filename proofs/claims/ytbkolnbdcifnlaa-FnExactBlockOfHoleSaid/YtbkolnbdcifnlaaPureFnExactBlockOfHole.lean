/- The law FnExactBlockOfHole over numbers and lists: it is true of every input. -/
import Derived.Test.YtbkolnbdcifnlaaStatFnExactBlockOfHole
import Derived.Test.YtbkolnbdcifnlaaModel
set_option linter.unusedVariables false
set_option linter.unusedSimpArgs false
namespace Go.Proofs.Ytbkolnbdcifnlaa.PureFnExactBlockOfHole
open Go.RowKit Go.Proofs.Ytbkolnbdcifnlaa.PFnExactBlockOfHole Go.Proofs.YtbkolnbdcifnlaaW.PrintWords Go.Proofs.YtbkolnbdcifnlaaW.PrintLast Go.Proofs.YtbkolnbdcifnlaaW.PrintMore Go.Proofs.Ytbkolnbdcifnlaa.Kit Go.Proofs.Ytbkolnbdcifnlaa.Model
theorem spec_l1In_eq (a lo hi : Int) : spec_l1In.f a lo hi = some (decide (lo ≤ a ∧ a ≤ hi)) := by
  unfold spec_l1In.f
  split
  · congr 1; simp; omega
  · congr 1; simp; omega
theorem spec_grGood_eq (x y z : Int) : spec_grGood.f x y z = some (gridOk x y z) := by
  simp only [spec_grGood.f, spec_l1In_eq, Option.bind_some, decide_eq_true_eq, gridOk]
  by_cases hx : 1 ≤ x ∧ x ≤ 8
  · rw [if_pos hx]
    by_cases hy : 1 ≤ y ∧ y ≤ 6
    · rw [if_pos hy]
      by_cases hz : 1 ≤ z ∧ z ≤ 5
      · rw [if_pos hz, grid_wrap hx hy hz]; congr 1; simp [hx, hy, hz]
      · rw [if_neg hz]; congr 1; symm; simp; omega
    · rw [if_neg hy]; congr 1; symm; simp; omega
  · rw [if_neg hx]; congr 1; symm; simp; omega
theorem spec_bhHole_eq (gx gy gz x y z t g : Int) (hg : gridOk gx gy gz = true) : spec_bhHole.f gx gy gz x y z t g = some (holeOk gx gy gz x y z t g) := by
  have hb := grid_ok hg
  simp only [spec_bhHole.f, spec_l1In_eq, Option.bind_some, decide_eq_true_eq, holeOk]
  rw [wrap_id (x := 10 * gx) (by omega) (by omega), wrap_id (x := 10 * gx - 1) (by omega) (by omega), wrap_id (x := 10 * gy) (by omega) (by omega), wrap_id (x := 10 * gy - 1) (by omega) (by omega), wrap_id (x := 10 * gz) (by omega) (by omega), wrap_id (x := 10 * gz - 1) (by omega) (by omega)]
  repeat' split
  all_goals first | (congr 1; rw [decide_eq_decide]; omega) | (congr 1; symm; simp; omega)
def atOf (gx gy x y z : Int) : Int := wrap64 (wrap64 (wrap64 (wrap64 (z * gy) + y) * gx) + x)
theorem spec_grAt_eq (gx gy gz x y z : Int) (hg : gridOk gx gy gz = true) (hx : 0 ≤ x ∧ x < gx) (hy : 0 ≤ y ∧ y < gy) (hz : 0 ≤ z ∧ z < gz) : spec_grAt.f gx gy gz x y z = some (atOf gx gy x y z) := by
  have hb := grid_ok hg
  simp only [spec_grAt.f, spec_l1In_eq, Option.bind_some, decide_eq_true_eq]
  rw [wrap_id (x := gx - 1) (by omega) (by omega), wrap_id (x := gy - 1) (by omega) (by omega), wrap_id (x := gz - 1) (by omega) (by omega), if_pos (by omega), if_pos (by omega), if_pos (by omega)]
  rfl
def holeAt (gx gy x y z : Int) : Int := atOf gx gy (Int.tdiv x 10) (Int.tdiv y 10) (Int.tdiv z 10)
theorem tdiv10 {x : Int} (h : 0 ≤ x) : Int.tdiv x 10 = x / 10 := Int.tdiv_eq_ediv_of_nonneg h
theorem spec_bhBlock_eq (gx gy gz x y z t g : Int) (hg : gridOk gx gy gz = true) (hh : holeOk gx gy gz x y z t g = true) : spec_bhBlock.f gx gy gz x y z t g = some (holeAt gx gy x y z) := by
  have hb := grid_ok hg
  simp only [holeOk, decide_eq_true_eq] at hh
  have h1 := tdiv10 (x := x) (by omega)
  have h2 := tdiv10 (x := y) (by omega)
  have h3 := tdiv10 (x := z) (by omega)
  simp only [spec_bhBlock.f, holeAt, h1, h2, h3]
  rw [wrap_id (x := x / 10) (by omega) (by omega), wrap_id (x := y / 10) (by omega) (by omega), wrap_id (x := z / 10) (by omega) (by omega), spec_grAt_eq gx gy gz _ _ _ hg (by omega) (by omega) (by omega)]
  rfl
theorem spec_BlockOfHole_eq (gx gy gz x y z t g : Int) : spec_BlockOfHole.f gx gy gz x y z t g = some (if gridOk gx gy gz = true ∧ holeOk gx gy gz x y z t g = true then (holeAt gx gy x y z, true) else (0, false)) := by
  simp only [spec_BlockOfHole.f, spec_grGood_eq, Option.bind_some]
  by_cases hg : gridOk gx gy gz = true
  · rw [if_pos hg, spec_bhHole_eq gx gy gz x y z t g hg, Option.bind_some]
    by_cases hh : holeOk gx gy gz x y z t g = true
    · rw [if_pos hh, if_pos ⟨hg, hh⟩, spec_bhBlock_eq gx gy gz x y z t g hg hh]; rfl
    · rw [if_neg hh, if_neg (fun h => hh h.2)]
  · rw [if_neg hg, if_neg (fun h => hg h.1)]
theorem impl_IsGrid_eq (x y z : Int) : impl_IsGrid.f x y z = some (gridOk x y z) := by
  simp only [impl_IsGrid.f, gridOk]
  by_cases hx : 1 ≤ x ∧ x ≤ 8
  · rw [if_pos (by omega), if_pos (by omega)]
    by_cases hy : 1 ≤ y ∧ y ≤ 6
    · rw [if_pos (by omega), if_pos (by omega)]
      by_cases hz : 1 ≤ z ∧ z ≤ 5
      · rw [if_pos (by omega), if_pos (by omega), grid_wrap hx hy hz]; congr 1; simp [hx, hy, hz]
      · have e : decide (1 ≤ x ∧ x ≤ 8 ∧ 1 ≤ y ∧ y ≤ 6 ∧ 1 ≤ z ∧ z ≤ 5 ∧ x * y * z ≤ 120) = false := by simp; omega
        rw [e]; split
        · rw [if_neg (by omega)]
        · rfl
    · have e : decide (1 ≤ x ∧ x ≤ 8 ∧ 1 ≤ y ∧ y ≤ 6 ∧ 1 ≤ z ∧ z ≤ 5 ∧ x * y * z ≤ 120) = false := by simp; omega
      rw [e]; split
      · rw [if_neg (by omega)]
      · rfl
  · have e : decide (1 ≤ x ∧ x ≤ 8 ∧ 1 ≤ y ∧ y ≤ 6 ∧ 1 ≤ z ∧ z ≤ 5 ∧ x * y * z ≤ 120) = false := by simp; omega
    rw [e]; split
    · rw [if_neg (by omega)]
    · rfl
def holesOk (gx gy gz : Int) : List S41 → Bool
  | [] => true
  | h :: hs => holeOk gx gy gz h.f0 h.f1 h.f2 h.f3 h.f4 && holesOk gx gy gz hs
theorem impl_areHoles_l0 (gx gy gz : Int) (hg : gridOk gx gy gz = true) (l : List S41) (hn : l.length ≤ 9223372036854775807) : ∀ (ys : List S41) (i : Nat), l.drop i = ys → Ev (fun k => impl_areHoles.l0 k l (l.length : Int) i gx gy gz) (holesOk gx gy gz ys)
  | [], i, h => Ev.next0 fun k => by
      have h0 := drop_nil h
      simp only [impl_areHoles.l0, holesOk]
      rw [if_neg (by omega)]
  | y :: ys, i, h => by
      obtain ⟨h1, h2, h3⟩ := drop_cons h
      have hb := grid_ok hg
      refine Ev.next1 (impl_areHoles_l0 gx gy gz hg l hn ys (i + 1) h3) fun k hk => ?_
      have e : rd_T41 l i = y := getD_drop h
      simp only [impl_areHoles.l0, e]
      rw [if_pos (by omega), if_pos (by omega), if_pos (by omega), wrap_succ h1 hn, wrap_id (x := 10 * gx) (by omega) (by omega), wrap_id (x := 10 * gy) (by omega) (by omega), wrap_id (x := 10 * gz) (by omega) (by omega)]
      by_cases hy : 0 ≤ y.f0 ∧ y.f0 < 10 * gx ∧ 0 ≤ y.f1 ∧ y.f1 < 10 * gy ∧ 0 ≤ y.f2 ∧ y.f2 < 10 * gz ∧ 1 ≤ y.f3 ∧ y.f3 ≤ 1000 ∧ 0 ≤ y.f4 ∧ y.f4 ≤ 1000
      · rw [if_neg (by omega), if_neg (by omega), if_neg (by omega), if_neg (by omega), if_neg (by omega), if_neg (by omega), if_neg (by omega), if_neg (by omega), if_neg (by omega), if_neg (by omega), hk]
        simp [holesOk, holeOk, hy]
      · have e2 : holesOk gx gy gz (y :: ys) = false := by
          have : holeOk gx gy gz y.f0 y.f1 y.f2 y.f3 y.f4 = false := decide_eq_false hy
          simp [holesOk, this]
        rw [e2]
        repeat' split
        all_goals first | rfl | (exfalso; omega)
theorem impl_areHoles_ev (gx gy gz : Int) (hg : gridOk gx gy gz = true) (l : List S41) (hn : l.length ≤ 9223372036854775807) : Ev (fun k => impl_areHoles.f k gx gy gz l) (decide (l.length ≤ 40) && holesOk gx gy gz l) :=
  Ev.of1 (impl_areHoles_l0 gx gy gz hg l hn l 0 rfl) fun k hk => by
    simp only [impl_areHoles.f]
    by_cases h : l.length ≤ 40
    · rw [if_neg (by omega)]; simpa [h] using hk
    · rw [if_pos (by omega)]; simp [h]
-- needs: spec_grAt
theorem impl_blockAt_eq (gx gy gz x y z : Int) : impl_blockAt.f gx gy gz x y z = some (atOf gx gy x y z) := rfl
-- needs: spec_bhBlock
theorem impl_blockOfHole_eq (gx gy gz x y z t g : Int) (hg : gridOk gx gy gz = true) (hh : holeOk gx gy gz x y z t g = true) : impl_blockOfHole.f gx gy gz x y z t g = some (holeAt gx gy x y z) := by
  have hb := grid_ok hg
  simp only [holeOk, decide_eq_true_eq] at hh
  have h1 := tdiv10 (x := x) (by omega)
  have h2 := tdiv10 (x := y) (by omega)
  have h3 := tdiv10 (x := z) (by omega)
  simp only [impl_blockOfHole.f, holeAt, h1, h2, h3]
  rw [wrap_id (x := x / 10) (by omega) (by omega), wrap_id (x := y / 10) (by omega) (by omega), wrap_id (x := z / 10) (by omega) (by omega), impl_blockAt_eq]
  rfl
theorem impl_BlockOfHole_ev (gx gy gz x y z t g : Int) : Ev (fun k => impl_BlockOfHole.f k gx gy gz x y z t g) (if gridOk gx gy gz = true ∧ holeOk gx gy gz x y z t g = true then (holeAt gx gy x y z, true) else (0, false)) := by
  by_cases hg : gridOk gx gy gz = true
  · refine Ev.of1 (impl_areHoles_ev gx gy gz hg [⟨x, y, z, t, g⟩] (by simp)) fun k hk => ?_
    simp only [impl_BlockOfHole.f, impl_IsGrid_eq, Option.bind_some]
    rw [if_pos hg, hk, Option.bind_some]
    by_cases hh : holeOk gx gy gz x y z t g = true
    · rw [if_pos (by simp [holesOk, hh]), if_pos ⟨hg, hh⟩, impl_blockOfHole_eq gx gy gz x y z t g hg hh]; rfl
    · rw [if_neg (by simp [holesOk, hh]), if_neg (fun h => hh h.2)]
  · refine Ev.all fun k => ?_
    simp only [impl_BlockOfHole.f, impl_IsGrid_eq, Option.bind_some]
    rw [if_neg hg, if_neg (fun h => hg h.1)]
theorem FnExactBlockOfHole : Stat.FnExactBlockOfHole := by
  intro gx gy gz x y z t g _ _ _ _ _ _ _ _
  refine Ev.rounds ?_
  refine (ev_one (impl_BlockOfHole_ev gx gy gz x y z t g)).ev fun k h1 => ?_
  simp only [laws_FnExactBlockOfHole.f, laws_toGrid.f, laws_toHole.f, spec_BlockOfHole_eq, h1, Option.bind_some]
  simp
end Go.Proofs.Ytbkolnbdcifnlaa.PureFnExactBlockOfHole
namespace Go.Proofs.Ytbkolnbdcifnlaa.Pure
theorem FnExactBlockOfHole : Stat.FnExactBlockOfHole := PureFnExactBlockOfHole.FnExactBlockOfHole
end Go.Proofs.Ytbkolnbdcifnlaa.Pure
