/- The law FnExactIsBench over numbers and lists: it is true of every input. -/
import Derived.Test.YtbkolnbdcifnlaaStatFnExactIsBench
import Derived.Test.YtbkolnbdcifnlaaModel
set_option linter.unusedVariables false
set_option linter.unusedSimpArgs false
namespace Go.Proofs.Ytbkolnbdcifnlaa.PureFnExactIsBench
open Go.RowKit Go.Proofs.Ytbkolnbdcifnlaa.PFnExactIsBench Go.Proofs.YtbkolnbdcifnlaaW.PrintWords Go.Proofs.YtbkolnbdcifnlaaW.PrintLast Go.Proofs.YtbkolnbdcifnlaaW.PrintMore Go.Proofs.Ytbkolnbdcifnlaa.Kit Go.Proofs.Ytbkolnbdcifnlaa.Model
theorem laws_szIntS_eq (l : List Int) (a : Int) (h0 : 0 ≤ a) (ha : a ≤ 1048576) (hn : l.length ≤ 9223372036854775807) : laws_szIntS.f l a = some (if a < l.length then -1 else a - l.length) := by
  simp only [laws_szIntS.f]
  rw [wrap_id (by omega) (by omega)]
  split
  · rw [if_pos (by omega)]
  · rw [if_neg (by omega)]
theorem laws_szBench_eq (x y : Int) (l : List Int) (a : Int) (h0 : 0 ≤ a) (ha : a ≤ 1048576) (hn : l.length ≤ 9223372036854775807) : laws_szBench.f x y l a = some (if a < l.length then -1 else a - l.length) := by
  simp only [laws_szBench.f, laws_szIntS_eq l a h0 ha hn, Option.bind_some]
  by_cases h : a < l.length
  · rw [if_pos h, if_pos (by omega)]
  · rw [if_neg h, if_neg (by omega)]
theorem spec_l1In_eq (a lo hi : Int) : spec_l1In.f a lo hi = some (decide (lo ≤ a ∧ a ≤ hi)) := by
  unfold spec_l1In.f
  split
  · congr 1; simp; omega
  · congr 1; simp; omega
theorem spec_l1All_l0 (lo hi : Int) (l : List Int) (hn : l.length ≤ 9223372036854775807) : ∀ (ys : List Int) (i : Nat), l.drop i = ys → Ev (fun k => spec_l1All.l0 k lo hi l (l.length : Int) i) (allIn lo hi ys)
  | [], i, h => Ev.next0 fun k => by
      have h0 := drop_nil h
      simp only [spec_l1All.l0, allIn]
      rw [if_neg (by omega)]
  | y :: ys, i, h => by
      obtain ⟨h1, h2, h3⟩ := drop_cons h
      refine Ev.next1 (spec_l1All_l0 lo hi l hn ys (i + 1) h3) fun k hk => ?_
      have e := rd_drop h
      simp only [spec_l1All.l0, e, spec_l1In_eq, Option.bind_some]
      rw [if_pos (by omega), if_pos (by omega), if_pos (by omega), wrap_succ h1 hn]
      by_cases hy : lo ≤ y ∧ y ≤ hi
      · rw [if_pos (decide_eq_true hy), hk]; simp [allIn, hy]
      · rw [if_neg (by simp; omega)]; simp [allIn, hy]
theorem spec_l1All_ev (l : List Int) (lo hi : Int) (hn : l.length ≤ 9223372036854775807) : Ev (fun k => spec_l1All.f k l lo hi) (allIn lo hi l) :=
  Ev.of1 (spec_l1All_l0 lo hi l hn l 0 rfl) fun k hk => by simp only [spec_l1All.f]; exact hk
theorem spec_dgGood_ev (x y : Int) (l : List Int) (hn : l.length ≤ 9223372036854775807) : Ev (fun k => spec_dgGood.f k x y l) (benchOk x y l) := by
  refine Ev.of1 (spec_l1All_ev l (-1000000) 1000000 hn) fun k hk => ?_
  simp only [spec_dgGood.f, spec_l1In_eq, hk, Option.bind_some, benchOk, decide_eq_true_eq]
  by_cases hx : 1 ≤ x ∧ x ≤ 8
  · rw [if_pos hx]
    by_cases hy : 1 ≤ y ∧ y ≤ 6
    · have hp := bench_prod hx hy
      rw [if_pos hy, wrap_id (by omega) (by omega)]
      by_cases hl : (l.length : Int) = x * y
      · rw [if_pos hl]; congr 1; simp [hx, hy, hl]
      · rw [if_neg hl]; congr 1; symm; simp [hl]
    · rw [if_neg hy]; congr 1; symm; simp; omega
  · rw [if_neg hx]; congr 1; symm; simp; omega
theorem spec_IsBench_ev (x y : Int) (l : List Int) (hn : l.length ≤ 9223372036854775807) : Ev (fun k => spec_IsBench.f k x y l) (benchOk x y l) :=
  Ev.of1 (spec_dgGood_ev x y l hn) fun k hk => by simp only [spec_IsBench.f, hk, Option.bind_some]
theorem laws_toIntS_l0 (l : List Int) (hn : l.length ≤ 9223372036854775807) : ∀ (ys : List Int) (i : Nat) (x : List Int), l.drop i = ys → x.length = l.length → x.take i = l.take i → Ev (fun k => laws_toIntS.l0 k l x i) l
  | [], i, x, h, hl, ht => Ev.next0 fun k => by
      have h0 := drop_nil h
      have h1 : l.length = l.length := by simp
      simp only [laws_toIntS.l0]
      rw [if_neg (by omega), copy_end hl ht (by omega)]
  | y :: ys, i, x, h, hl, ht => by
      obtain ⟨h1, h2, h3⟩ := drop_cons h
      have hm : l.length = l.length := by simp
      have hg : l[i]? = some y := by simp [h2]
      obtain ⟨c1, c2⟩ := copy_step hg hl ht
      refine Ev.next1 (laws_toIntS_l0 l hn ys (i + 1) (x.set i y) h3 c1 c2) fun k hk => ?_
      have e := rd_drop h
      simp only [laws_toIntS.l0, e, Option.bind_some]
      rw [if_pos (by omega), if_pos (by omega), if_pos (by omega), wrap_succ h1 hn, toNat_cast]
      exact hk
theorem laws_toIntS_ev (l : List Int) (hn : l.length ≤ 35184372088832) : Ev (fun k => laws_toIntS.f k l) l :=
  Ev.of1 (laws_toIntS_l0 l (by omega) l 0 (List.replicate ((l.length : Int)).toNat 0) rfl (by simp) rfl) fun k hk => by
    simp only [laws_toIntS.f]
    rw [if_pos (by omega), if_pos (by omega)]
    exact hk
theorem laws_toBench_ev (x y : Int) (l : List Int) (hn : l.length ≤ 1048576) : Ev (fun k => laws_toBench.f k x y l) (x, y, l) :=
  Ev.of1 (laws_toIntS_ev l (by omega)) fun k hk => by simp only [laws_toBench.f, hk, Option.bind_some]
theorem impl_goodValues_l0 (l : List Int) (hn : l.length ≤ 9223372036854775807) : ∀ (ys : List Int) (i : Nat), l.drop i = ys → Ev (fun k => impl_goodValues.l0 k l (l.length : Int) i) (allIn (-1000000) 1000000 ys)
  | [], i, h => Ev.next0 fun k => by
      have h0 := drop_nil h
      simp only [impl_goodValues.l0, allIn]
      rw [if_neg (by omega)]
  | y :: ys, i, h => by
      obtain ⟨h1, h2, h3⟩ := drop_cons h
      refine Ev.next1 (impl_goodValues_l0 l hn ys (i + 1) h3) fun k hk => ?_
      have e := rd_drop h
      simp only [impl_goodValues.l0, e]
      rw [if_pos (by omega), if_pos (by omega), if_pos (by omega), wrap_succ h1 hn]
      by_cases hy : -1000000 ≤ y
      · rw [if_neg (by omega)]
        by_cases hz : y ≤ 1000000
        · rw [if_neg (by omega), hk]; simp [allIn, hy, hz]
        · rw [if_pos (by omega)]; simp [allIn, hz]
      · rw [if_pos (by omega)]; simp [allIn, hy]
theorem impl_goodValues_ev (l : List Int) (hn : l.length ≤ 9223372036854775807) : Ev (fun k => impl_goodValues.f k l) (decide (1 ≤ l.length ∧ l.length ≤ 120) && allIn (-1000000) 1000000 l) := by
  by_cases h : 1 ≤ l.length ∧ l.length ≤ 120
  · have h1 : Ev (fun k => impl_goodValues.j0 k l false) (allIn (-1000000) 1000000 l) := Ev.next1 (impl_goodValues_l0 l hn l 0 rfl) fun k hk => by
      simp only [impl_goodValues.j0]; rw [if_neg (by simp)]; exact hk
    refine Ev.of1 h1 fun k hk => ?_
    have e : decide ((l.length : Int) > 120) = false := by simp; omega
    simp only [impl_goodValues.f]
    rw [if_neg (by omega), e, hk]; simp [h]
  · have h1 : Ev (fun k => impl_goodValues.j0 k l true) false := Ev.next0 fun k => by simp [impl_goodValues.j0]
    refine Ev.of1 h1 fun k hk => ?_
    simp only [impl_goodValues.f]
    by_cases h2 : l.length < 1
    · rw [if_pos (by omega), hk]; simp; omega
    · have e : decide ((l.length : Int) > 120) = true := by simp; omega
      rw [if_neg (by omega), e, hk]; simp; omega
theorem bench_len {x y : Int} {l : List Int} (h : benchOk x y l = true) : (1 ≤ x ∧ x ≤ 8) ∧ (1 ≤ y ∧ y ≤ 6) ∧ (l.length : Int) = x * y ∧ 1 ≤ l.length ∧ l.length ≤ 48 := by
  simp only [benchOk, Bool.and_eq_true, decide_eq_true_eq] at h
  have := bench_prod (x := x) (y := y) (by omega) (by omega)
  omega
theorem impl_IsBench_ev (x y : Int) (l : List Int) (hn : l.length ≤ 9223372036854775807) : Ev (fun k => impl_IsBench.f k x y l) (benchOk x y l) := by
  refine Ev.of1 (impl_goodValues_ev l hn) fun k hk => ?_
  simp only [impl_IsBench.f, hk, Option.bind_some, benchOk]
  by_cases hx : 1 ≤ x ∧ x ≤ 8
  · rw [if_neg (by omega), if_neg (by omega)]
    by_cases hy : 1 ≤ y ∧ y ≤ 6
    · have hp := bench_prod hx hy
      rw [if_neg (by omega), if_neg (by omega), wrap_id (by omega) (by omega)]
      by_cases hl : (l.length : Int) = x * y
      · rw [if_pos hl]; congr 1
        rw [decide_eq_true (show 1 ≤ l.length ∧ l.length ≤ 120 by omega)]
        simp [hx, hy, hl]
      · rw [if_neg hl]; congr 1; symm; simp [hl]
    · have e : decide (1 ≤ x ∧ x ≤ 8 ∧ 1 ≤ y ∧ y ≤ 6 ∧ (l.length : Int) = x * y) = false := by simp; omega
      rw [e]; split
      · simp
      · rw [if_pos (by omega)]; simp
  · have e : decide (1 ≤ x ∧ x ≤ 8 ∧ 1 ≤ y ∧ y ≤ 6 ∧ (l.length : Int) = x * y) = false := by simp; omega
    rw [e]; split
    · simp
    · rw [if_pos (by omega)]; simp
theorem laws_eqIntS_l0 (l : List Int) (hn : l.length ≤ 9223372036854775807) : ∀ (ys : List Int) (i : Nat), l.drop i = ys → Ev (fun k => laws_eqIntS.l0 k l l i) true
  | [], i, h => Ev.next0 fun k => by
      have h0 := drop_nil h
      simp only [laws_eqIntS.l0]
      rw [if_neg (by omega)]
  | y :: ys, i, h => by
      obtain ⟨h1, h2, h3⟩ := drop_cons h
      refine Ev.next1 (laws_eqIntS_l0 l hn ys (i + 1) h3) fun k hk => ?_
      have e := rd_drop h
      simp only [laws_eqIntS.l0, e]
      rw [if_pos (by omega), if_pos (by omega), if_pos (by omega), if_pos (by simp), wrap_succ h1 hn]
      exact hk
theorem laws_eqIntS_ev (l : List Int) (hn : l.length ≤ 9223372036854775807) : Ev (fun k => laws_eqIntS.f k l l) true :=
  Ev.of1 (laws_eqIntS_l0 l hn l 0 rfl) fun k hk => by
    simp only [laws_eqIntS.f]
    rw [if_pos (by simp)]
    exact hk
theorem laws_eqBench_ev (x y : Int) (l : List Int) (hn : l.length ≤ 1048576) : Ev (fun k => laws_eqBench.f k x y l x y l) true :=
  Ev.of1 (laws_eqIntS_ev l (by omega)) fun k hk => by simp [laws_eqBench.f, hk]
theorem FnExactIsBench : Stat.FnExactIsBench := by
  intro x y l _ _ hl
  refine Ev.rounds ?_
  by_cases hg : (1048576 : Int) < l.length
  · refine Ev.all fun k => ?_
    simp only [laws_FnExactIsBench.f, laws_szBench_eq x y l 1048576 (by omega) (by omega) hl.1, Option.bind_some]
    rw [if_pos hg, if_pos (by omega)]
  · have hn : l.length ≤ 1048576 := by omega
    refine (ev_and (laws_toBench_ev x y l hn) <| ev_and (laws_eqBench_ev x y l hn) <| ev_and (spec_IsBench_ev x y l (by omega)) <| ev_one (impl_IsBench_ev x y l (by omega))).ev fun k ⟨h1, h2, h3, h4⟩ => ?_
    simp only [laws_FnExactIsBench.f, laws_szBench_eq x y l 1048576 (by omega) (by omega) hl.1, h1, h2, h3, h4, Option.bind_some]
    rw [if_neg hg, if_neg (by omega)]
    simp
end Go.Proofs.Ytbkolnbdcifnlaa.PureFnExactIsBench
namespace Go.Proofs.Ytbkolnbdcifnlaa.Pure
theorem FnExactIsBench : Stat.FnExactIsBench := PureFnExactIsBench.FnExactIsBench
end Go.Proofs.Ytbkolnbdcifnlaa.Pure
