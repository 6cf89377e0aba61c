/- The law FnExactAreHoles over numbers and lists: it is true of every input. -/
import Derived.Test.YtbkolnbdcifnlaaStatFnExactAreHoles
import Derived.Test.YtbkolnbdcifnlaaModel
set_option linter.unusedVariables false
set_option linter.unusedSimpArgs false
namespace Go.Proofs.Ytbkolnbdcifnlaa.PureFnExactAreHoles
open Go.RowKit Go.Proofs.Ytbkolnbdcifnlaa.PFnExactAreHoles Go.Proofs.YtbkolnbdcifnlaaW.PrintWords Go.Proofs.YtbkolnbdcifnlaaW.PrintLast Go.Proofs.YtbkolnbdcifnlaaW.PrintMore Go.Proofs.Ytbkolnbdcifnlaa.Kit Go.Proofs.Ytbkolnbdcifnlaa.Model
theorem laws_szHoleS_eq (l : List S37) (a : Int) (h0 : 0 ≤ a) (ha : a ≤ 1048576) (hn : l.length ≤ 9223372036854775807) : laws_szHoleS.f l a = some (if a < l.length then -1 else a - l.length) := by
  simp only [laws_szHoleS.f]
  rw [wrap_id (by omega) (by omega)]
  split
  · rw [if_pos (by omega)]
  · rw [if_neg (by omega)]
theorem spec_l1In_eq (a lo hi : Int) : spec_l1In.f a lo hi = some (decide (lo ≤ a ∧ a ≤ hi)) := by
  unfold spec_l1In.f
  split
  · congr 1; simp; omega
  · congr 1; simp; omega
theorem spec_grGood_eq (x y z : Int) : spec_grGood.f x y z = some (gridOk x y z) := by
  simp only [spec_grGood.f, spec_l1In_eq, Option.bind_some, decide_eq_true_eq, gridOk]
  by_cases hx : 1 ≤ x ∧ x ≤ 8
  · rw [if_pos hx]
    by_cases hy : 1 ≤ y ∧ y ≤ 6
    · rw [if_pos hy]
      by_cases hz : 1 ≤ z ∧ z ≤ 5
      · rw [if_pos hz, grid_wrap hx hy hz]; congr 1; simp [hx, hy, hz]
      · rw [if_neg hz]; congr 1; symm; simp; omega
    · rw [if_neg hy]; congr 1; symm; simp; omega
  · rw [if_neg hx]; congr 1; symm; simp; omega
theorem spec_bhHole_eq (gx gy gz x y z t g : Int) (hg : gridOk gx gy gz = true) : spec_bhHole.f gx gy gz x y z t g = some (holeOk gx gy gz x y z t g) := by
  have hb := grid_ok hg
  simp only [spec_bhHole.f, spec_l1In_eq, Option.bind_some, decide_eq_true_eq, holeOk]
  rw [wrap_id (x := 10 * gx) (by omega) (by omega), wrap_id (x := 10 * gx - 1) (by omega) (by omega), wrap_id (x := 10 * gy) (by omega) (by omega), wrap_id (x := 10 * gy - 1) (by omega) (by omega), wrap_id (x := 10 * gz) (by omega) (by omega), wrap_id (x := 10 * gz - 1) (by omega) (by omega)]
  repeat' split
  all_goals first | (congr 1; rw [decide_eq_decide]; omega) | (congr 1; symm; simp; omega)
def holesOk (gx gy gz : Int) : List S41 → Bool
  | [] => true
  | h :: hs => holeOk gx gy gz h.f0 h.f1 h.f2 h.f3 h.f4 && holesOk gx gy gz hs
theorem impl_areHoles_l0 (gx gy gz : Int) (hg : gridOk gx gy gz = true) (l : List S41) (hn : l.length ≤ 9223372036854775807) : ∀ (ys : List S41) (i : Nat), l.drop i = ys → Ev (fun k => impl_areHoles.l0 k l (l.length : Int) i gx gy gz) (holesOk gx gy gz ys)
  | [], i, h => Ev.next0 fun k => by
      have h0 := drop_nil h
      simp only [impl_areHoles.l0, holesOk]
      rw [if_neg (by omega)]
  | y :: ys, i, h => by
      obtain ⟨h1, h2, h3⟩ := drop_cons h
      have hb := grid_ok hg
      refine Ev.next1 (impl_areHoles_l0 gx gy gz hg l hn ys (i + 1) h3) fun k hk => ?_
      have e : rd_T41 l i = y := getD_drop h
      simp only [impl_areHoles.l0, e]
      rw [if_pos (by omega), if_pos (by omega), if_pos (by omega), wrap_succ h1 hn, wrap_id (x := 10 * gx) (by omega) (by omega), wrap_id (x := 10 * gy) (by omega) (by omega), wrap_id (x := 10 * gz) (by omega) (by omega)]
      by_cases hy : 0 ≤ y.f0 ∧ y.f0 < 10 * gx ∧ 0 ≤ y.f1 ∧ y.f1 < 10 * gy ∧ 0 ≤ y.f2 ∧ y.f2 < 10 * gz ∧ 1 ≤ y.f3 ∧ y.f3 ≤ 1000 ∧ 0 ≤ y.f4 ∧ y.f4 ≤ 1000
      · rw [if_neg (by omega), if_neg (by omega), if_neg (by omega), if_neg (by omega), if_neg (by omega), if_neg (by omega), if_neg (by omega), if_neg (by omega), if_neg (by omega), if_neg (by omega), hk]
        simp [holesOk, holeOk, hy]
      · have e2 : holesOk gx gy gz (y :: ys) = false := by
          have : holeOk gx gy gz y.f0 y.f1 y.f2 y.f3 y.f4 = false := decide_eq_false hy
          simp [holesOk, this]
        rw [e2]
        repeat' split
        all_goals first | rfl | (exfalso; omega)
theorem impl_areHoles_ev (gx gy gz : Int) (hg : gridOk gx gy gz = true) (l : List S41) (hn : l.length ≤ 9223372036854775807) : Ev (fun k => impl_areHoles.f k gx gy gz l) (decide (l.length ≤ 40) && holesOk gx gy gz l) :=
  Ev.of1 (impl_areHoles_l0 gx gy gz hg l hn l 0 rfl) fun k hk => by
    simp only [impl_areHoles.f]
    by_cases h : l.length ≤ 40
    · rw [if_neg (by omega)]; simpa [h] using hk
    · rw [if_pos (by omega)]; simp [h]
-- needs: impl_areHoles spec_bhHole
theorem spec_bhList_l0 (gx gy gz : Int) (hg : gridOk gx gy gz = true) (l : List S41) (hn : l.length ≤ 9223372036854775807) : ∀ (ys : List S41) (i : Nat), l.drop i = ys → Ev (fun k => spec_bhList.l0 k l l (l.length : Int) i gx gy gz) (decide (l.length ≤ 40) && holesOk gx gy gz ys)
  | [], i, h => Ev.next0 fun k => by
      have h0 := drop_nil h
      simp only [spec_bhList.l0, holesOk]
      rw [if_neg (by omega)]; congr 1; simp; omega
  | y :: ys, i, h => by
      obtain ⟨h1, h2, h3⟩ := drop_cons h
      refine Ev.next1 (spec_bhList_l0 gx gy gz hg l hn ys (i + 1) h3) fun k hk => ?_
      have e : rd_T41 l i = y := getD_drop h
      simp only [spec_bhList.l0, e, spec_bhHole_eq gx gy gz _ _ _ _ _ hg, Option.bind_some]
      rw [if_pos (by omega), if_pos (by omega), if_pos (by omega), wrap_succ h1 hn]
      by_cases hy : holeOk gx gy gz y.f0 y.f1 y.f2 y.f3 y.f4 = true
      · rw [if_pos hy, hk]; simp [holesOk, hy]
      · rw [if_neg hy]; simp [holesOk, hy]
theorem spec_bhList_ev (gx gy gz : Int) (hg : gridOk gx gy gz = true) (l : List S41) (hn : l.length ≤ 9223372036854775807) : Ev (fun k => spec_bhList.f k gx gy gz l) (decide (l.length ≤ 40) && holesOk gx gy gz l) :=
  Ev.of1 (spec_bhList_l0 gx gy gz hg l hn l 0 rfl) fun k hk => by simp only [spec_bhList.f]; exact hk
theorem spec_AreHoles_ev (gx gy gz : Int) (l : List S41) (hn : l.length ≤ 9223372036854775807) : Ev (fun k => spec_AreHoles.f k gx gy gz l) (if gridOk gx gy gz = true then (decide (l.length ≤ 40) && holesOk gx gy gz l, true) else (false, false)) := by
  by_cases hg : gridOk gx gy gz = true
  · refine Ev.of1 (spec_bhList_ev gx gy gz hg l hn) fun k hk => ?_
    simp only [spec_AreHoles.f, spec_grGood_eq, Option.bind_some]
    rw [if_pos hg, if_pos hg, hk]; rfl
  · refine Ev.all fun k => ?_
    simp only [spec_AreHoles.f, spec_grGood_eq, Option.bind_some]
    rw [if_neg hg, if_neg hg]
def toHole (y : S37) : S41 := ⟨y.f0, y.f1, y.f2, y.f3, y.f4⟩
theorem laws_toHoleS_l0 (l : List S37) (hn : l.length ≤ 9223372036854775807) : ∀ (ys : List S37) (i : Nat) (x : List S41), l.drop i = ys → x.length = (l.map toHole).length → x.take i = (l.map toHole).take i → Ev (fun k => laws_toHoleS.l0 k l x i) (l.map toHole)
  | [], i, x, h, hl, ht => Ev.next0 fun k => by
      have h0 := drop_nil h
      have h1 : (l.map toHole).length = l.length := by simp
      simp only [laws_toHoleS.l0]
      rw [if_neg (by omega), copy_end hl ht (by omega)]
  | y :: ys, i, x, h, hl, ht => by
      obtain ⟨h1, h2, h3⟩ := drop_cons h
      have hm : (l.map toHole).length = l.length := by simp
      have hg : (l.map toHole)[i]? = some (toHole y) := by simp [h2]
      obtain ⟨c1, c2⟩ := copy_step hg hl ht
      refine Ev.next1 (laws_toHoleS_l0 l hn ys (i + 1) (x.set i (toHole y)) h3 c1 c2) fun k hk => ?_
      have e : rd_T37 l i = y := getD_drop h
      simp only [laws_toHoleS.l0, e, laws_toHole.f, Option.bind_some]
      rw [if_pos (by omega), if_pos (by omega), if_pos (by omega), wrap_succ h1 hn, toNat_cast]
      exact hk
theorem laws_toHoleS_ev (l : List S37) (hn : l.length ≤ 1048576) : Ev (fun k => laws_toHoleS.f k l) (l.map toHole) :=
  Ev.of1 (laws_toHoleS_l0 l (by omega) l 0 (List.replicate ((l.length : Int)).toNat z41) rfl (by simp) rfl) fun k hk => by
    simp only [laws_toHoleS.f]
    rw [if_pos (by omega), if_pos (by omega)]
    exact hk
theorem impl_IsGrid_eq (x y z : Int) : impl_IsGrid.f x y z = some (gridOk x y z) := by
  simp only [impl_IsGrid.f, gridOk]
  by_cases hx : 1 ≤ x ∧ x ≤ 8
  · rw [if_pos (by omega), if_pos (by omega)]
    by_cases hy : 1 ≤ y ∧ y ≤ 6
    · rw [if_pos (by omega), if_pos (by omega)]
      by_cases hz : 1 ≤ z ∧ z ≤ 5
      · rw [if_pos (by omega), if_pos (by omega), grid_wrap hx hy hz]; congr 1; simp [hx, hy, hz]
      · have e : decide (1 ≤ x ∧ x ≤ 8 ∧ 1 ≤ y ∧ y ≤ 6 ∧ 1 ≤ z ∧ z ≤ 5 ∧ x * y * z ≤ 120) = false := by simp; omega
        rw [e]; split
        · rw [if_neg (by omega)]
        · rfl
    · have e : decide (1 ≤ x ∧ x ≤ 8 ∧ 1 ≤ y ∧ y ≤ 6 ∧ 1 ≤ z ∧ z ≤ 5 ∧ x * y * z ≤ 120) = false := by simp; omega
      rw [e]; split
      · rw [if_neg (by omega)]
      · rfl
  · have e : decide (1 ≤ x ∧ x ≤ 8 ∧ 1 ≤ y ∧ y ≤ 6 ∧ 1 ≤ z ∧ z ≤ 5 ∧ x * y * z ≤ 120) = false := by simp; omega
    rw [e]; split
    · rw [if_neg (by omega)]
    · rfl
theorem impl_AreHoles_ev (gx gy gz : Int) (l : List S41) (hn : l.length ≤ 9223372036854775807) : Ev (fun k => impl_AreHoles.f k gx gy gz l) (if gridOk gx gy gz = true then (decide (l.length ≤ 40) && holesOk gx gy gz l, true) else (false, false)) := by
  by_cases hg : gridOk gx gy gz = true
  · refine Ev.of1 (impl_areHoles_ev gx gy gz hg l hn) fun k hk => ?_
    simp only [impl_AreHoles.f, impl_IsGrid_eq, Option.bind_some]
    rw [if_pos hg, if_pos hg, hk]; rfl
  · refine Ev.all fun k => ?_
    simp only [impl_AreHoles.f, impl_IsGrid_eq, Option.bind_some]
    rw [if_neg hg, if_neg hg]
theorem laws_eqHole_self (a b c d e : Int) : laws_eqHole.f a b c d e a b c d e = some true := by simp [laws_eqHole.f]
theorem laws_eqHoleS_l0 (l : List S41) (hn : l.length ≤ 9223372036854775807) : ∀ (ys : List S41) (i : Nat), l.drop i = ys → Ev (fun k => laws_eqHoleS.l0 k l l i) true
  | [], i, h => Ev.next0 fun k => by
      have h0 := drop_nil h
      simp only [laws_eqHoleS.l0]
      rw [if_neg (by omega)]
  | y :: ys, i, h => by
      obtain ⟨h1, h2, h3⟩ := drop_cons h
      refine Ev.next1 (laws_eqHoleS_l0 l hn ys (i + 1) h3) fun k hk => ?_
      simp only [laws_eqHoleS.l0, laws_eqHole_self, Option.bind_some]
      rw [if_pos (by omega), if_pos (by omega), if_pos (by omega), if_pos (by simp), wrap_succ h1 hn]
      exact hk
theorem laws_eqHoleS_ev (l : List S41) (hn : l.length ≤ 9223372036854775807) : Ev (fun k => laws_eqHoleS.f k l l) true :=
  Ev.of1 (laws_eqHoleS_l0 l hn l 0 rfl) fun k hk => by
    simp only [laws_eqHoleS.f]
    rw [if_pos (by simp)]
    exact hk
theorem j0_ev (l : List S37) (hn : l.length ≤ 1048576) : Ev (fun k => laws_FnExactAreHoles.j0 k l (l.map toHole) false) true :=
  (ev_and (laws_toHoleS_ev l hn) <| ev_one (laws_eqHoleS_ev (l.map toHole) (by simp; omega))).next fun k ⟨h1, h2⟩ => by
    simp [laws_FnExactAreHoles.j0, h1, h2]
theorem FnExactAreHoles : Stat.FnExactAreHoles := by
  intro gx gy gz l _ _ _ hl
  refine Ev.rounds ?_
  by_cases hg : (1048576 : Int) < l.length
  · refine Ev.all fun k => ?_
    simp only [laws_FnExactAreHoles.f, laws_szHoleS_eq l 1048576 (by omega) (by omega) hl.1, Option.bind_some]
    rw [if_pos hg, if_pos (by omega)]
  · have hn : l.length ≤ 1048576 := by omega
    refine (ev_and (laws_toHoleS_ev l hn) <| ev_and (j0_ev l hn) <| ev_and (spec_AreHoles_ev gx gy gz (l.map toHole) (by simp; omega)) <| ev_one (impl_AreHoles_ev gx gy gz (l.map toHole) (by simp; omega))).ev fun k ⟨h1, h2, h3, h4⟩ => ?_
    simp only [laws_FnExactAreHoles.f, laws_szHoleS_eq l 1048576 (by omega) (by omega) hl.1, laws_toGrid.f, h1, h3, h4, Option.bind_some]
    rw [if_neg hg, if_neg (by omega)]
    simp [h2]
end Go.Proofs.Ytbkolnbdcifnlaa.PureFnExactAreHoles
namespace Go.Proofs.Ytbkolnbdcifnlaa.Pure
theorem FnExactAreHoles : Stat.FnExactAreHoles := PureFnExactAreHoles.FnExactAreHoles
end Go.Proofs.Ytbkolnbdcifnlaa.Pure
