/- The law FnExactFirstImbalance over numbers and lists: it is true of every input. -/
import Derived.Test.YtkoacjepochjaaaStatFnExactFirstImbalance
import Derived.Test.YtkoacjepochjaaaModel
set_option linter.unusedVariables false
set_option linter.unusedSimpArgs false
namespace Go.Proofs.Ytkoacjepochjaaa.PureFnExactFirstImbalance
open Go.RowKit Go.Proofs.Ytkoacjepochjaaa.PFnExactFirstImbalance Go.Proofs.YtkoacjepochjaaaW.PrintWords Go.Proofs.YtkoacjepochjaaaW.PrintLast Go.Proofs.YtkoacjepochjaaaW.PrintMore Go.Proofs.Ytkoacjepochjaaa.Kit Go.Proofs.Ytkoacjepochjaaa.Model
theorem laws_szIntS_eq (l : List Int) (a : Int) (h0 : 0 ≤ a) (ha : a ≤ 1048576) (hn : l.length ≤ 9223372036854775807) : laws_szIntS.f l a = some (if a < l.length then -1 else a - l.length) := by
  simp only [laws_szIntS.f]
  rw [wrap_id (by omega) (by omega)]
  split
  · rw [if_pos (by omega)]
  · rw [if_neg (by omega)]
theorem laws_szIntSS_l0 (l : List (List Int)) (hn : l.length ≤ 9223372036854775807) (hl : ∀ y ∈ l, y.length ≤ 9223372036854775807) : ∀ (ys : List (List Int)) (i : Nat) (a : Int), l.drop i = ys → 0 ≤ a → a ≤ 1048576 → Ev (fun k => laws_szIntSS.l0 k l a i) (left a (sumLen ys))
  | [], i, a, h, h0, ha => Ev.next0 fun k => by
      have := drop_nil h
      simp only [laws_szIntSS.l0]
      rw [if_neg (by omega), left_ge (by show ((0 : Nat) : Int) ≤ a; omega)]
      congr 1; show a = a - ((0 : Nat) : Int); omega
  | y :: ys, i, a, h, h0, ha => by
      obtain ⟨h1, h2, h3⟩ := drop_cons h
      have e : rd_L1 l i = y := getD_drop h
      have e2 := laws_szIntS_eq y a h0 ha (hl y (List.mem_of_getElem? h2))
      have hs : sumLen (y :: ys) = y.length + sumLen ys := rfl
      by_cases hy : a < (y.length : Int)
      · refine Ev.next0 fun k => ?_
        simp only [laws_szIntSS.l0, e, e2, Option.bind_some]
        rw [if_pos (by omega), if_pos (by omega), if_pos hy, if_pos (by omega), left_lt (by omega)]
      · refine Ev.next1 (laws_szIntSS_l0 l hn hl ys (i + 1) (a - y.length) h3 (by omega) (by omega)) fun k hk => ?_
        simp only [laws_szIntSS.l0, e, e2, Option.bind_some]
        rw [if_pos (by omega), if_pos (by omega), if_neg hy, if_neg (by omega), wrap_succ h1 hn, hk]
        congr 1
        by_cases hq : a - (y.length : Int) < (sumLen ys : Int)
        · rw [left_lt hq, left_lt (by omega)]
        · rw [left_ge (by omega), left_ge (by omega)]; omega
theorem laws_szIntSS_ev (l : List (List Int)) (a : Int) (hn : l.length ≤ 9223372036854775807) (hl : ∀ y ∈ l, y.length ≤ 9223372036854775807) (h0 : 0 ≤ a) (ha : a ≤ 1048576) : Ev (fun k => laws_szIntSS.f k l a) (left a (tot l)) := by
  have ht := tot_eq l
  by_cases h : a < (l.length : Int)
  · refine Ev.all fun k => ?_
    simp only [laws_szIntSS.f]
    rw [wrap_id (by omega) (by omega), if_pos (by omega), left_lt (by omega)]
  · refine Ev.of1 (laws_szIntSS_l0 l hn hl l 0 (a - l.length) rfl (by omega) (by omega)) fun k hk => ?_
    simp only [laws_szIntSS.f]
    rw [wrap_id (by omega) (by omega), if_neg (by omega)]
    refine hk.trans ?_
    congr 1
    by_cases hq : a < (tot l : Int)
    · rw [left_lt (by omega), left_lt hq]
    · rw [left_ge (by omega), left_ge (by omega)]; omega
theorem laws_toIntS_l0 (l : List Int) (hn : l.length ≤ 9223372036854775807) : ∀ (ys : List Int) (i : Nat) (x : List Int), l.drop i = ys → x.length = l.length → x.take i = l.take i → Ev (fun k => laws_toIntS.l0 k l x i) l
  | [], i, x, h, hl, ht => Ev.next0 fun k => by
      have h0 := drop_nil h
      have h1 : l.length = l.length := by simp
      simp only [laws_toIntS.l0]
      rw [if_neg (by omega), copy_end hl ht (by omega)]
  | y :: ys, i, x, h, hl, ht => by
      obtain ⟨h1, h2, h3⟩ := drop_cons h
      have hm : l.length = l.length := by simp
      have hg : l[i]? = some y := by simp [h2]
      obtain ⟨c1, c2⟩ := copy_step hg hl ht
      refine Ev.next1 (laws_toIntS_l0 l hn ys (i + 1) (x.set i y) h3 c1 c2) fun k hk => ?_
      have e := rd_drop h
      simp only [laws_toIntS.l0, e, Option.bind_some]
      rw [if_pos (by omega), if_pos (by omega), if_pos (by omega), wrap_succ h1 hn, toNat_cast]
      exact hk
theorem laws_toIntS_ev (l : List Int) (hn : l.length ≤ 35184372088832) : Ev (fun k => laws_toIntS.f k l) l :=
  Ev.of1 (laws_toIntS_l0 l (by omega) l 0 (List.replicate ((l.length : Int)).toNat 0) rfl (by simp) rfl) fun k hk => by
    simp only [laws_toIntS.f]
    rw [if_pos (by omega), if_pos (by omega)]
    exact hk
theorem laws_toIntSS_l0 (l : List (List Int)) (hn : l.length ≤ 1048576) (hl : ∀ y ∈ l, y.length ≤ 1048576) : ∀ (ys : List (List Int)) (i : Nat) (x : List (List Int)), l.drop i = ys → x.length = l.length → x.take i = l.take i → Ev (fun k => laws_toIntSS.l0 k l x i) l
  | [], i, x, h, hl', ht => Ev.next0 fun k => by
      have h0 := drop_nil h
      simp only [laws_toIntSS.l0]
      rw [if_neg (by omega), copy_end hl' ht (by omega)]
  | y :: ys, i, x, h, hl', ht => by
      obtain ⟨h1, h2, h3⟩ := drop_cons h
      obtain ⟨c1, c2⟩ := copy_step h2 hl' ht
      have hy := hl y (List.mem_of_getElem? h2)
      refine Ev.next2 (laws_toIntSS_l0 l hn hl ys (i + 1) (x.set i y) h3 c1 c2) (laws_toIntS_ev y (by omega)) fun k hk hk2 => ?_
      have e : rd_L1 l i = y := getD_drop h
      simp only [laws_toIntSS.l0, e, hk2, Option.bind_some]
      rw [if_pos (by omega), if_pos (by omega), if_pos (by omega), wrap_succ h1 (by omega), toNat_cast]
      exact hk
theorem laws_toIntSS_ev (l : List (List Int)) (hn : l.length ≤ 1048576) (hl : ∀ y ∈ l, y.length ≤ 1048576) : Ev (fun k => laws_toIntSS.f k l) l :=
  Ev.of1 (laws_toIntSS_l0 l hn hl l 0 (List.replicate ((l.length : Int)).toNat []) rfl (by simp) rfl) fun k hk => by
    simp only [laws_toIntSS.f]
    rw [if_pos (by omega), if_pos (by omega)]
    exact hk
theorem laws_eqIntS_l0 (l : List Int) (hn : l.length ≤ 9223372036854775807) : ∀ (ys : List Int) (i : Nat), l.drop i = ys → Ev (fun k => laws_eqIntS.l0 k l l i) true
  | [], i, h => Ev.next0 fun k => by
      have h0 := drop_nil h
      simp only [laws_eqIntS.l0]
      rw [if_neg (by omega)]
  | y :: ys, i, h => by
      obtain ⟨h1, h2, h3⟩ := drop_cons h
      refine Ev.next1 (laws_eqIntS_l0 l hn ys (i + 1) h3) fun k hk => ?_
      have e := rd_drop h
      simp only [laws_eqIntS.l0, e]
      rw [if_pos (by omega), if_pos (by omega), if_pos (by omega), if_pos (by simp), wrap_succ h1 hn]
      exact hk
theorem laws_eqIntS_ev (l : List Int) (hn : l.length ≤ 9223372036854775807) : Ev (fun k => laws_eqIntS.f k l l) true :=
  Ev.of1 (laws_eqIntS_l0 l hn l 0 rfl) fun k hk => by
    simp only [laws_eqIntS.f]
    rw [if_pos (by simp)]
    exact hk
theorem laws_eqIntSS_l0 (l : List (List Int)) (hn : l.length ≤ 1048576) (hl : ∀ y ∈ l, y.length ≤ 1048576) : ∀ (ys : List (List Int)) (i : Nat), l.drop i = ys → Ev (fun k => laws_eqIntSS.l0 k l l i) true
  | [], i, h => Ev.next0 fun k => by
      have h0 := drop_nil h
      simp only [laws_eqIntSS.l0]
      rw [if_neg (by omega)]
  | y :: ys, i, h => by
      obtain ⟨h1, h2, h3⟩ := drop_cons h
      have hy := hl y (List.mem_of_getElem? h2)
      refine Ev.next2 (laws_eqIntSS_l0 l hn hl ys (i + 1) h3) (laws_eqIntS_ev y (by omega)) fun k hk hk2 => ?_
      have e : rd_L1 l i = y := getD_drop h
      simp only [laws_eqIntSS.l0, e, hk2, Option.bind_some]
      rw [if_pos (by omega), if_pos (by omega), if_pos (by omega), if_pos (by simp), wrap_succ h1 (by omega)]
      exact hk
theorem laws_eqIntSS_ev (l : List (List Int)) (hn : l.length ≤ 1048576) (hl : ∀ y ∈ l, y.length ≤ 1048576) : Ev (fun k => laws_eqIntSS.f k l l) true :=
  Ev.of1 (laws_eqIntSS_l0 l hn hl l 0 rfl) fun k hk => by
    simp only [laws_eqIntSS.f]
    rw [if_pos (by simp)]
    exact hk
theorem spec_l1In_eq (a lo hi : Int) : spec_l1In.f a lo hi = some (decide (lo ≤ a ∧ a ≤ hi)) := by
  unfold spec_l1In.f
  split
  · congr 1; simp; omega
  · congr 1; simp; omega
theorem spec_l1All_l0 (lo hi : Int) (l : List Int) (hn : l.length ≤ 9223372036854775807) : ∀ (ys : List Int) (i : Nat), l.drop i = ys → Ev (fun k => spec_l1All.l0 k lo hi l (l.length : Int) i) (allIn lo hi ys)
  | [], i, h => Ev.next0 fun k => by
      have h0 := drop_nil h
      simp only [spec_l1All.l0, allIn]
      rw [if_neg (by omega)]
  | y :: ys, i, h => by
      obtain ⟨h1, h2, h3⟩ := drop_cons h
      refine Ev.next1 (spec_l1All_l0 lo hi l hn ys (i + 1) h3) fun k hk => ?_
      have e := rd_drop h
      simp only [spec_l1All.l0, e, spec_l1In_eq, Option.bind_some]
      rw [if_pos (by omega), if_pos (by omega), if_pos (by omega), wrap_succ h1 hn]
      by_cases hy : lo ≤ y ∧ y ≤ hi
      · rw [if_pos (decide_eq_true hy), hk]; simp [allIn, hy]
      · rw [if_neg (by simp; omega)]; simp [allIn, hy]
theorem spec_l1All_ev (l : List Int) (lo hi : Int) (hn : l.length ≤ 9223372036854775807) : Ev (fun k => spec_l1All.f k l lo hi) (allIn lo hi l) :=
  Ev.of1 (spec_l1All_l0 lo hi l hn l 0 rfl) fun k hk => by simp only [spec_l1All.f]; exact hk
theorem spec_acRow_ev (l : List Int) (hn : l.length ≤ 9223372036854775807) : Ev (fun k => spec_acRow.f k l) (rowOk l) :=
  Ev.of1 (spec_l1All_ev l 0 100000000000 hn) fun k hk => by
    simp only [spec_acRow.f, hk, Option.bind_some, rowOk]
    by_cases h : l.length = 12
    · rw [if_pos (by omega)]; simp [h]
    · rw [if_neg (by omega)]; simp [h]
theorem spec_acRows_l0 (l : List (List Int)) (hn : l.length ≤ 1048576) (hl : ∀ y ∈ l, y.length ≤ 1048576) : ∀ (ys : List (List Int)) (i : Nat), l.drop i = ys → Ev (fun k => spec_acRows.l0 k l l (l.length : Int) i) (decide (l.length ≤ 6) && rowsOk ys)
  | [], i, h => Ev.next0 fun k => by
      have h0 := drop_nil h
      simp only [spec_acRows.l0, rowsOk]
      rw [if_neg (by omega)]; congr 1; simp; omega
  | y :: ys, i, h => by
      obtain ⟨h1, h2, h3⟩ := drop_cons h
      have hy := hl y (List.mem_of_getElem? h2)
      refine Ev.next2 (spec_acRows_l0 l hn hl ys (i + 1) h3) (spec_acRow_ev y (by omega)) fun k hk hk2 => ?_
      have e : rd_L1 l i = y := getD_drop h
      simp only [spec_acRows.l0, e, hk2, Option.bind_some]
      rw [if_pos (by omega), if_pos (by omega), if_pos (by omega), wrap_succ h1 (by omega)]
      by_cases hr : rowOk y = true
      · rw [if_pos hr, hk]; simp [rowsOk, hr]
      · rw [if_neg hr]; simp [rowsOk, hr]
theorem spec_acRows_ev (l : List (List Int)) (hn : l.length ≤ 1048576) (hl : ∀ y ∈ l, y.length ≤ 1048576) : Ev (fun k => spec_acRows.f k l) (decide (l.length ≤ 6) && rowsOk l) :=
  Ev.of1 (spec_acRows_l0 l hn hl l 0 rfl) fun k hk => by simp only [spec_acRows.f]; exact hk
theorem spec_acNumber_eq (a : Int) : spec_acNumber.f a = some (decide (0 ≤ a ∧ a ≤ 100000000000)) := by simp only [spec_acNumber.f, spec_l1In_eq, Option.bind_some]
theorem spec_acHolds_eq (l : List Int) (h : l.length = 12) : spec_acHolds.f l = some (rowHolds l) := by
  unfold spec_acHolds.f rowHolds
  have e : (l.length : Int) = 12 := by omega
  simp only [e]
  by_cases h0 : rd l 0 = wrap64 (wrap64 (rd l 2 + rd l 4) + rd l 6)
  · simp [h0]
  · simp [h0]
theorem spec_FirstImbalance_l0 (l : List (List Int)) (hn : l.length ≤ 1048576) (hr : rowsOk l = true) : ∀ (ys : List (List Int)) (i : Nat) (t m : Int), l.drop i = ys → i ≤ l.length → 0 ≤ t ∧ t ≤ 100000000000 → 0 ≤ m ∧ m ≤ 100000000000 → Ev (fun k => spec_FirstImbalance.l0 k t m l l (l.length : Int) i) ((imbal ys i t m : Int), true)
  | [], i, t, m, h, hi, h0, ha => Ev.next0 fun k => by
      have h1 := drop_nil h
      simp only [spec_FirstImbalance.l0, imbal]
      rw [if_neg (by omega)]
      rw [show l.length = i by omega]
  | y :: ys, i, t, m, h, hi, h0, ha => by
      obtain ⟨h1, h2, h3⟩ := drop_cons h
      have hy := rowsOk_mem hr y (List.mem_of_getElem? h2)
      have hl := row_len hy
      have r4 := row_rd hy 4 (by omega)
      have r5 := row_rd hy 5 (by omega)
      have r8 := row_rd hy 8 (by omega)
      have r9 := row_rd hy 9 (by omega)
      have r10 := row_rd hy 10 (by omega)
      have r11 := row_rd hy 11 (by omega)
      have e4 : ((4 : Nat) : Int) = 4 := rfl
      have e5 : ((5 : Nat) : Int) = 5 := rfl
      have e8 : ((8 : Nat) : Int) = 8 := rfl
      have e9 : ((9 : Nat) : Int) = 9 := rfl
      have e10 : ((10 : Nat) : Int) = 10 := rfl
      have e11 : ((11 : Nat) : Int) = 11 := rfl
      rw [e4] at r4; rw [e5] at r5; rw [e8] at r8; rw [e9] at r9; rw [e10] at r10; rw [e11] at r11
      refine Ev.next1 (spec_FirstImbalance_l0 l hn hr ys (i + 1) (rd y 10) (rd y 11) h3 (by omega) r10 r11) fun k hk => ?_
      have e : rd_L1 l i = y := getD_drop h
      simp only [spec_FirstImbalance.l0, e, spec_acHolds_eq y hl, Option.bind_some, imbal]
      rw [if_pos (by omega), if_pos (by omega), if_pos (by omega), wrap_succ h1 (by omega)]
      by_cases hb : rowHolds y = true
      · rw [if_pos hb, if_pos (by omega), if_pos (by omega), if_pos (by omega)]
        rw [wrap_id (x := t + rd y 4) (by omega) (by omega), wrap_id (x := t + rd y 4 - rd y 8) (by omega) (by omega), wrap_id (x := m + rd y 5) (by omega) (by omega), wrap_id (x := m + rd y 5 - rd y 9) (by omega) (by omega)]
        by_cases h10 : rd y 10 = t + (rd y 4 - rd y 8)
        · rw [if_pos (by omega), if_pos (by omega), if_pos (by omega), if_pos (by omega)]
          by_cases h11 : rd y 11 = m + (rd y 5 - rd y 9)
          · rw [if_pos (by omega), if_pos ⟨hb, h10, h11⟩]; exact hk
          · rw [if_neg (by omega), if_neg (fun h => h11 h.2.2)]
        · rw [if_neg (by omega), if_neg (fun h => h10 h.2.1)]
      · rw [if_neg hb, if_neg (fun h => hb h.1)]
theorem spec_FirstImbalance_no (a b : Int) (l : List (List Int)) : Ev (fun k => spec_FirstImbalance.j0 k a b l true) (0, false) := Ev.next0 fun k => by simp [spec_FirstImbalance.j0]
theorem spec_FirstImbalance_yes (a b : Int) (l : List (List Int)) (hn : l.length ≤ 1048576) (hr : rowsOk l = true) (h0 : 0 ≤ a ∧ a ≤ 100000000000) (h1 : 0 ≤ b ∧ b ≤ 100000000000) : Ev (fun k => spec_FirstImbalance.j0 k a b l false) ((imbal l 0 a b : Int), true) :=
  Ev.next1 (spec_FirstImbalance_l0 l hn hr l 0 a b rfl (by omega) h0 h1) fun k hk => by
    simp only [spec_FirstImbalance.j0]; rw [if_neg (by simp)]; exact hk
def firstImb (a b : Int) (l : List (List Int)) : Int × Bool := if (0 ≤ a ∧ a ≤ 100000000000) ∧ (0 ≤ b ∧ b ≤ 100000000000) ∧ l.length ≤ 6 ∧ rowsOk l = true then ((imbal l 0 a b : Int), true) else (0, false)
theorem spec_FirstImbalance_ev (a b : Int) (l : List (List Int)) (hn : l.length ≤ 1048576) (hl : ∀ y ∈ l, y.length ≤ 1048576) : Ev (fun k => spec_FirstImbalance.f k a b l) (firstImb a b l) := by
  by_cases h : (0 ≤ a ∧ a ≤ 100000000000) ∧ (0 ≤ b ∧ b ≤ 100000000000) ∧ l.length ≤ 6 ∧ rowsOk l = true
  · refine (ev_and (spec_acRows_ev l hn hl) <| ev_one (spec_FirstImbalance_yes a b l hn h.2.2.2 h.1 h.2.1)).ev fun k ⟨e1, e2⟩ => ?_
    have e3 : (!(decide (l.length ≤ 6) && rowsOk l)) = false := by simp [h.2.2.1, h.2.2.2]
    obtain ⟨ha, hb, hc⟩ := h
    simp only [spec_FirstImbalance.f, spec_acNumber_eq, e1, Option.bind_some]
    rw [if_pos (by simpa using ha), if_pos (by simpa using hb), e3]
    rw [e2, firstImb, if_pos ⟨ha, hb, hc⟩]
  · refine (ev_and (spec_acRows_ev l hn hl) <| ev_one (spec_FirstImbalance_no a b l)).ev fun k ⟨e1, e2⟩ => ?_
    rw [firstImb, if_neg h]
    simp only [spec_FirstImbalance.f, spec_acNumber_eq, e1, Option.bind_some]
    by_cases ha : 0 ≤ a ∧ a ≤ 100000000000
    · rw [if_pos (by simpa using ha)]
      by_cases hb : 0 ≤ b ∧ b ≤ 100000000000
      · have e3 : (!(decide (l.length ≤ 6) && rowsOk l)) = true := by
          cases hq : (decide (l.length ≤ 6) && rowsOk l) with
          | false => rfl
          | true => simp only [Bool.and_eq_true, decide_eq_true_eq] at hq; exact absurd ⟨ha, hb, hq.1, hq.2⟩ h
        rw [if_pos (by simpa using hb), e3, e2]
      · rw [if_neg (by simpa using hb), e2]
    · rw [if_neg (by simpa using ha), e2]
theorem impl_isAccountRow_l0 (l : List Int) (hn : l.length ≤ 9223372036854775807) : ∀ (ys : List Int) (i : Nat), l.drop i = ys → Ev (fun k => impl_isAccountRow.l0 k l (l.length : Int) i) (allIn 0 100000000000 ys)
  | [], i, h => Ev.next0 fun k => by
      have h0 := drop_nil h
      simp only [impl_isAccountRow.l0, allIn]
      rw [if_neg (by omega)]
  | y :: ys, i, h => by
      obtain ⟨h1, h2, h3⟩ := drop_cons h
      refine Ev.next1 (impl_isAccountRow_l0 l hn ys (i + 1) h3) fun k hk => ?_
      have e := rd_drop h
      simp only [impl_isAccountRow.l0, e]
      rw [if_pos (by omega), if_pos (by omega), if_pos (by omega), wrap_succ h1 hn]
      by_cases hy : 0 ≤ y
      · rw [if_neg (by omega)]
        by_cases hz : y ≤ 100000000000
        · rw [if_neg (by omega), hk]; simp [allIn, hy, hz]
        · rw [if_pos (by omega)]; simp [allIn, hz]
      · rw [if_pos (by omega)]; simp [allIn, hy]
theorem impl_isAccountRow_ev (l : List Int) (hn : l.length ≤ 9223372036854775807) : Ev (fun k => impl_isAccountRow.f k l) (rowOk l) :=
  Ev.of1 (impl_isAccountRow_l0 l hn l 0 rfl) fun k hk => by
    simp only [impl_isAccountRow.f, rowOk]
    by_cases h : l.length = 12
    · rw [if_pos (by omega)]; simpa [h] using hk
    · rw [if_neg (by omega)]; simp [h]
theorem impl_areAccountRows_l0 (l : List (List Int)) (hn : l.length ≤ 1048576) (hl : ∀ y ∈ l, y.length ≤ 1048576) : ∀ (ys : List (List Int)) (i : Nat), l.drop i = ys → Ev (fun k => impl_areAccountRows.l0 k l (l.length : Int) i) (rowsOk ys)
  | [], i, h => Ev.next0 fun k => by
      have h0 := drop_nil h
      simp only [impl_areAccountRows.l0, rowsOk]
      rw [if_neg (by omega)]
  | y :: ys, i, h => by
      obtain ⟨h1, h2, h3⟩ := drop_cons h
      have hy := hl y (List.mem_of_getElem? h2)
      refine Ev.next2 (impl_areAccountRows_l0 l hn hl ys (i + 1) h3) (impl_isAccountRow_ev y (by omega)) fun k hk hk2 => ?_
      have e : rd_L1 l i = y := getD_drop h
      simp only [impl_areAccountRows.l0, e, hk2, Option.bind_some]
      rw [if_pos (by omega), if_pos (by omega), if_pos (by omega), wrap_succ h1 (by omega)]
      by_cases hr : rowOk y = true
      · rw [if_pos hr, hk]; simp [rowsOk, hr]
      · rw [if_neg hr]; simp [rowsOk, hr]
theorem impl_areAccountRows_ev (l : List (List Int)) (hn : l.length ≤ 1048576) (hl : ∀ y ∈ l, y.length ≤ 1048576) : Ev (fun k => impl_areAccountRows.f k l) (decide (l.length ≤ 6) && rowsOk l) :=
  Ev.of1 (impl_areAccountRows_l0 l hn hl l 0 rfl) fun k hk => by
    simp only [impl_areAccountRows.f]
    by_cases h : l.length ≤ 6
    · rw [if_neg (by omega)]; simpa [h] using hk
    · rw [if_pos (by omega)]; simp [h]
theorem impl_rowBalances_eq (l : List Int) (h : l.length = 12) : impl_rowBalances.f l = some (rowHolds l) := by
  unfold impl_rowBalances.f rowHolds
  have e : (l.length : Int) = 12 := by omega
  simp only [e]
  by_cases h0 : rd l 0 = wrap64 (wrap64 (rd l 2 + rd l 4) + rd l 6)
  · simp [h0]
  · simp [h0]
-- needs: spec_FirstImbalance
theorem impl_FirstImbalance_l0 (l : List (List Int)) (hn : l.length ≤ 1048576) (hr : rowsOk l = true) : ∀ (ys : List (List Int)) (i : Nat) (t m : Int), l.drop i = ys → i ≤ l.length → 0 ≤ t ∧ t ≤ 100000000000 → 0 ≤ m ∧ m ≤ 100000000000 → Ev (fun k => impl_FirstImbalance.l0 k t m l l (l.length : Int) i) ((imbal ys i t m : Int), true)
  | [], i, t, m, h, hi, h0, ha => Ev.next0 fun k => by
      have h1 := drop_nil h
      simp only [impl_FirstImbalance.l0, imbal]
      rw [if_neg (by omega)]
      rw [show l.length = i by omega]
  | y :: ys, i, t, m, h, hi, h0, ha => by
      obtain ⟨h1, h2, h3⟩ := drop_cons h
      have hy := rowsOk_mem hr y (List.mem_of_getElem? h2)
      have hl := row_len hy
      have r4 := row_rd hy 4 (by omega)
      have r5 := row_rd hy 5 (by omega)
      have r8 := row_rd hy 8 (by omega)
      have r9 := row_rd hy 9 (by omega)
      have r10 := row_rd hy 10 (by omega)
      have r11 := row_rd hy 11 (by omega)
      have e4 : ((4 : Nat) : Int) = 4 := rfl
      have e5 : ((5 : Nat) : Int) = 5 := rfl
      have e8 : ((8 : Nat) : Int) = 8 := rfl
      have e9 : ((9 : Nat) : Int) = 9 := rfl
      have e10 : ((10 : Nat) : Int) = 10 := rfl
      have e11 : ((11 : Nat) : Int) = 11 := rfl
      rw [e4] at r4; rw [e5] at r5; rw [e8] at r8; rw [e9] at r9; rw [e10] at r10; rw [e11] at r11
      refine Ev.next1 (impl_FirstImbalance_l0 l hn hr ys (i + 1) (rd y 10) (rd y 11) h3 (by omega) r10 r11) fun k hk => ?_
      have e : rd_L1 l i = y := getD_drop h
      simp only [impl_FirstImbalance.l0, e, impl_rowBalances_eq y hl, Option.bind_some, imbal]
      rw [if_pos (by omega), if_pos (by omega), if_pos (by omega), wrap_succ h1 (by omega)]
      rw [if_pos (by omega), if_pos (by omega), if_pos (by omega), if_pos (by omega)]
      rw [wrap_id (x := rd y 4 - rd y 8) (by omega) (by omega), wrap_id (x := t + (rd y 4 - rd y 8)) (by omega) (by omega), wrap_id (x := rd y 5 - rd y 9) (by omega) (by omega), wrap_id (x := m + (rd y 5 - rd y 9)) (by omega) (by omega)]
      by_cases hb : rowHolds y = true
      · rw [if_pos hb, if_pos (by omega)]
        by_cases h10 : rd y 10 = t + (rd y 4 - rd y 8)
        · rw [if_pos h10, if_pos (by omega)]
          by_cases h11 : rd y 11 = m + (rd y 5 - rd y 9)
          · rw [if_pos h11, if_pos ⟨hb, h10, h11⟩, ← h10, ← h11]; exact hk
          · rw [if_neg h11, if_neg (fun h => h11 h.2.2)]
        · rw [if_neg h10, if_neg (fun h => h10 h.2.1)]
      · rw [if_neg hb, if_neg (fun h => hb h.1)]
theorem impl_FirstImbalance_no (a b : Int) (l : List (List Int)) : Ev (fun k => impl_FirstImbalance.j0 k a b l true) (0, false) := Ev.next0 fun k => by simp [impl_FirstImbalance.j0]
theorem impl_FirstImbalance_yes (a b : Int) (l : List (List Int)) (hn : l.length ≤ 1048576) (hr : rowsOk l = true) (h0 : 0 ≤ a ∧ a ≤ 100000000000) (h1 : 0 ≤ b ∧ b ≤ 100000000000) : Ev (fun k => impl_FirstImbalance.j0 k a b l false) ((imbal l 0 a b : Int), true) :=
  Ev.next1 (impl_FirstImbalance_l0 l hn hr l 0 a b rfl (by omega) h0 h1) fun k hk => by
    simp only [impl_FirstImbalance.j0]; rw [if_neg (by simp)]; exact hk
theorem impl_FirstImbalance_ev (a b : Int) (l : List (List Int)) (hn : l.length ≤ 1048576) (hl : ∀ y ∈ l, y.length ≤ 1048576) : Ev (fun k => impl_FirstImbalance.f k a b l) (firstImb a b l) := by
  by_cases h : (0 ≤ a ∧ a ≤ 100000000000) ∧ (0 ≤ b ∧ b ≤ 100000000000) ∧ l.length ≤ 6 ∧ rowsOk l = true
  · refine (ev_and (impl_areAccountRows_ev l hn hl) <| ev_one (impl_FirstImbalance_yes a b l hn h.2.2.2 h.1 h.2.1)).ev fun k ⟨e1, e2⟩ => ?_
    have e3 : (!(decide (l.length ≤ 6) && rowsOk l)) = false := by simp [h.2.2.1, h.2.2.2]
    obtain ⟨ha, hb, hc⟩ := h
    simp only [impl_FirstImbalance.f, e1, Option.bind_some]
    rw [if_neg (by omega), if_neg (by omega), if_neg (by omega), if_neg (by omega), e3]
    rw [e2, firstImb, if_pos ⟨ha, hb, hc⟩]
  · refine (ev_and (impl_areAccountRows_ev l hn hl) <| ev_one (impl_FirstImbalance_no a b l)).ev fun k ⟨e1, e2⟩ => ?_
    rw [firstImb, if_neg h]
    simp only [impl_FirstImbalance.f, e1, Option.bind_some, e2]
    by_cases ha : 0 ≤ a ∧ a ≤ 100000000000
    · rw [if_neg (by omega), if_neg (by omega)]
      by_cases hb : 0 ≤ b ∧ b ≤ 100000000000
      · have e3 : (!(decide (l.length ≤ 6) && rowsOk l)) = true := by
          cases hq : (decide (l.length ≤ 6) && rowsOk l) with
          | false => rfl
          | true => simp only [Bool.and_eq_true, decide_eq_true_eq] at hq; exact absurd ⟨ha, hb, hq.1, hq.2⟩ h
        rw [if_neg (by omega), if_neg (by omega), e3, e2]
      · split
        · rfl
        · rw [if_pos (by omega)]
    · split
      · rfl
      · rw [if_pos (by omega)]
theorem j0_ev (l : List (List Int)) (hn : l.length ≤ 1048576) (hl : ∀ y ∈ l, y.length ≤ 1048576) : Ev (fun k => laws_FnExactFirstImbalance.j0 k l l false) true :=
  (ev_and (laws_toIntSS_ev l hn hl) <| ev_one (laws_eqIntSS_ev l hn hl)).next fun k ⟨h1, h2⟩ => by
    simp [laws_FnExactFirstImbalance.j0, h1, h2]
theorem FnExactFirstImbalance : Stat.FnExactFirstImbalance := by
  intro a b l _ _ hl
  refine Ev.rounds ?_
  have hs := laws_szIntSS_ev l 1048576 hl.1 (fun y hy => (hl.2 y hy).1) (by omega) (by omega)
  by_cases hg : (1048576 : Int) < (tot l : Int)
  · refine (ev_one hs).ev fun k h1 => ?_
    simp only [laws_FnExactFirstImbalance.f, h1, Option.bind_some]
    rw [left_lt hg, if_pos (by omega)]
  · have ht := tot_eq l
    have hn : l.length ≤ 1048576 := by omega
    have hm : ∀ y ∈ l, y.length ≤ 1048576 := fun y hy => by have := sumLen_mem hy; omega
    refine (ev_and hs <| ev_and (laws_toIntSS_ev l hn hm) <| ev_and (j0_ev l hn hm) <| ev_and (spec_FirstImbalance_ev a b l hn hm) <| ev_one (impl_FirstImbalance_ev a b l hn hm)).ev fun k ⟨h0, h1, h2, h3, h4⟩ => ?_
    simp only [laws_FnExactFirstImbalance.f, h0, h1, h3, h4, Option.bind_some]
    rw [left_ge (by omega), if_neg (by omega)]
    simp [h2]
end Go.Proofs.Ytkoacjepochjaaa.PureFnExactFirstImbalance
namespace Go.Proofs.Ytkoacjepochjaaa.Pure
theorem FnExactFirstImbalance : Stat.FnExactFirstImbalance := PureFnExactFirstImbalance.FnExactFirstImbalance
end Go.Proofs.Ytkoacjepochjaaa.Pure
