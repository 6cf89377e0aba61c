/- The law FnExactFactorOf over numbers and lists: it is true of every input. -/
import Derived.Test.YtagnldmaglbpaaaStatFnExactFactorOf
import Derived.Test.YtagnldmaglbpaaaWMore
set_option linter.unusedVariables false
set_option linter.unusedSimpArgs false
namespace Go.Proofs.Ytagnldmaglbpaaa.Kit
open Go.RowKit Go.Proofs.YtagnldmaglbpaaaW.PrintWords Go.Proofs.YtagnldmaglbpaaaW.PrintMore

/-! ### Rounds -/
theorem Ev.all {α : Type} {g : Nat → Option α} {r : α} (h : ∀ k, g k = some r) : Ev g r := ⟨0, fun k _ => h k⟩
theorem Ev.of1 {α β : Type} {g : Nat → Option α} {f : Nat → Option β} {r : α} {b : β} (h : Ev f b) (k : ∀ k, f k = some b → g k = some r) : Ev g r := by
  obtain ⟨K, h⟩ := h; exact ⟨K, fun n hn => k n (h n hn)⟩
theorem Ev.next0 {α : Type} {g : Nat → Option α} {r : α} (h : ∀ k, g (k + 1) = some r) : Ev g r :=
  ⟨1, fun n hn => by obtain ⟨m, rfl⟩ : ∃ m, n = m + 1 := ⟨n - 1, by omega⟩; exact h m⟩
theorem Ev.next1 {α β : Type} {g : Nat → Option α} {f : Nat → Option β} {r : α} {b : β} (h : Ev f b) (k : ∀ k, f k = some b → g (k + 1) = some r) : Ev g r := by
  obtain ⟨K, h⟩ := h
  exact ⟨K + 1, fun n hn => by obtain ⟨m, rfl⟩ : ∃ m, n = m + 1 := ⟨n - 1, by omega⟩; exact k m (h m (by omega))⟩
/-- From some number of rounds on. -/
def Evt (p : Nat → Prop) : Prop := ∃ K, ∀ k, K ≤ k → p k
theorem ev_one {α : Type} {f : Nat → Option α} {a : α} (h : Ev f a) : Evt (fun k => f k = some a) := h
theorem ev_and {α : Type} {f : Nat → Option α} {a : α} {p : Nat → Prop} (h : Ev f a) (h' : Evt p) : Evt (fun k => f k = some a ∧ p k) := by
  obtain ⟨K, h⟩ := h; obtain ⟨K', h'⟩ := h'; exact ⟨K + K', fun n hn => ⟨h n (by omega), h' n (by omega)⟩⟩
theorem Evt.ev {α : Type} {g : Nat → Option α} {r : α} {p : Nat → Prop} (h : Evt p) (k : ∀ k, p k → g k = some r) : Ev g r := by
  obtain ⟨K, h⟩ := h; exact ⟨K, fun n hn => k n (h n hn)⟩
theorem Evt.next {α : Type} {g : Nat → Option α} {r : α} {p : Nat → Prop} (h : Evt p) (k : ∀ k, p k → g (k + 1) = some r) : Ev g r := by
  obtain ⟨K, h⟩ := h
  exact ⟨K + 1, fun n hn => by obtain ⟨m, rfl⟩ : ∃ m, n = m + 1 := ⟨n - 1, by omega⟩; exact k m (h m (by omega))⟩

/-! ### Whole numbers -/
theorem wrap_id {x : Int} (h0 : -9223372036854775808 ≤ x) (h1 : x ≤ 9223372036854775807) : wrap64 x = x := by unfold wrap64; omega
theorem wrap_succ {i n : Nat} (h : i < n) (hn : n ≤ 9223372036854775807) : wrap64 ((i : Int) + 1) = ((i + 1 : Nat) : Int) := by unfold wrap64; omega
theorem toNat_cast (i : Nat) : ((i : Int)).toNat = i := by omega

theorem mx_eq (a b : Int) : mx a b = max a b := by unfold mx; split <;> omega
/-! ### Lists from an index on -/
theorem drop_cons {α : Type} {xs ys : List α} {y : α} {i : Nat} (h : xs.drop i = y :: ys) : i < xs.length ∧ xs[i]? = some y ∧ xs.drop (i + 1) = ys := by
  have hlt : i < xs.length := by
    by_cases hlt : i < xs.length
    · exact hlt
    · rw [List.drop_of_length_le (by omega)] at h; cases h
  rw [List.drop_eq_getElem_cons hlt] at h
  injection h with h1 h2
  exact ⟨hlt, by rw [List.getElem?_eq_getElem hlt, h1], h2⟩
theorem drop_nil {α : Type} {xs : List α} {i : Nat} (h : xs.drop i = []) : xs.length ≤ i := by simpa using h
theorem getD_drop {α : Type} {xs ys : List α} {y d : α} {i : Nat} (h : xs.drop i = y :: ys) : xs.getD ((i : Int)).toNat d = y := by
  rw [toNat_cast, List.getD_eq_getElem?_getD, (drop_cons h).2.1]; rfl
theorem rd_drop {xs ys : List Int} {y : Int} {i : Nat} (h : xs.drop i = y :: ys) : rd xs (i : Int) = y := getD_drop h
theorem getD_get {α : Type} {xs : List α} {y d : α} {i : Nat} (h : xs[i]? = some y) : xs.getD ((i : Int)).toNat d = y := by
  rw [toNat_cast, List.getD_eq_getElem?_getD, h]; rfl
theorem rd_get {xs : List Int} {y : Int} {i : Nat} (h : xs[i]? = some y) : rd xs (i : Int) = y := getD_get h
/-- What is left of a, n taken off; -1 if it isn't enough. -/
def left (a : Int) (n : Nat) : Int := if a < (n : Int) then -1 else a - (n : Int)
theorem left_lt {a : Int} {n : Nat} (h : a < (n : Int)) : left a n = -1 := if_pos h
theorem left_ge {a : Int} {n : Nat} (h : (n : Int) ≤ a) : left a n = a - (n : Int) := if_neg (by omega)
/-! ### A list that is copied, element for element -/
theorem copy_step {α : Type} {m x : List α} {y : α} {i : Nat} (hm : m[i]? = some y) (hl : x.length = m.length) (ht : x.take i = m.take i) : (x.set i y).length = m.length ∧ (x.set i y).take (i + 1) = m.take (i + 1) := by
  obtain ⟨hi, rfl⟩ := List.getElem?_eq_some_iff.1 hm
  refine ⟨by simpa using hl, ?_⟩
  apply List.ext_getElem?
  intro j
  have hj : (x.take i)[j]? = (m.take i)[j]? := by rw [ht]
  rw [List.getElem?_take, List.getElem?_take] at *
  by_cases h1 : j < i + 1
  · rw [if_pos h1, if_pos h1]
    by_cases h2 : j = i
    · subst h2
      rw [List.getElem?_set_self (by omega), List.getElem?_eq_getElem hi]
    · rw [List.getElem?_set_ne (by omega)]
      rw [if_pos (by omega), if_pos (by omega)] at hj
      exact hj
  · rw [if_neg h1, if_neg h1]
theorem copy_end {α : Type} {m x : List α} {i : Nat} (hl : x.length = m.length) (ht : x.take i = m.take i) (hi : m.length ≤ i) : x = m := by
  rw [List.take_of_length_le (by omega), List.take_of_length_le hi] at ht; exact ht

/-! ### Strictly increasing lists of 0..n-1 -/
def rise (n : Int) : Int → List Int → Bool
  | _, [] => true
  | p, y :: ys => decide (0 ≤ y ∧ y < n ∧ p < y) && rise n y ys
theorem rise_mem {n : Int} : ∀ {p : Int} {ys : List Int}, rise n p ys = true → ∀ y ∈ ys, 0 ≤ y ∧ y < n ∧ p < y
  | p, [], _, y, hy => by cases hy
  | p, z :: zs, h, y, hy => by
    simp only [rise, Bool.and_eq_true, decide_eq_true_eq] at h
    rcases List.mem_cons.1 hy with rfl | hy
    · exact h.1
    · have := rise_mem h.2 y hy; omega

/-! ### Numbers marked and held -/
end Go.Proofs.Ytagnldmaglbpaaa.Kit
namespace Go.Proofs.Ytagnldmaglbpaaa.Model
open Go.RowKit Go.Proofs.YtagnldmaglbpaaaW.PrintWords Go.Proofs.Ytagnldmaglbpaaa.Kit

/-- Numbers within bounds, all of them. -/
def allIn (lo hi : Int) : List Int → Bool
  | [] => true
  | y :: ys => decide (lo ≤ y ∧ y ≤ hi) && allIn lo hi ys
theorem allIn_mem {lo hi : Int} : ∀ {ys : List Int}, allIn lo hi ys = true → ∀ y ∈ ys, lo ≤ y ∧ y ≤ hi
  | [], _, y, hy => by cases hy
  | z :: zs, h, y, hy => by
    simp only [allIn, Bool.and_eq_true, decide_eq_true_eq] at h
    rcases List.mem_cons.1 hy with rfl | hy
    · exact h.1
    · exact allIn_mem h.2 y hy
theorem allIn_get {lo hi : Int} {ys : List Int} (h : allIn lo hi ys = true) {i : Nat} {y : Int} (hy : ys[i]? = some y) : lo ≤ y ∧ y ≤ hi := allIn_mem h y (List.mem_of_getElem? hy)
def gridOk (x y z : Int) : Bool := decide (1 ≤ x ∧ x ≤ 8 ∧ 1 ≤ y ∧ y ≤ 6 ∧ 1 ≤ z ∧ z ≤ 5 ∧ x * y * z ≤ 120)
theorem grid_prod {x y z : Int} (hx : 1 ≤ x ∧ x ≤ 8) (hy : 1 ≤ y ∧ y ≤ 6) (hz : 1 ≤ z ∧ z ≤ 5) : 1 ≤ x * y ∧ x * y ≤ 48 ∧ 1 ≤ x * y * z ∧ x * y * z ≤ 240 := by
  rcases (by omega : x = 1 ∨ x = 2 ∨ x = 3 ∨ x = 4 ∨ x = 5 ∨ x = 6 ∨ x = 7 ∨ x = 8) with rfl | rfl | rfl | rfl | rfl | rfl | rfl | rfl <;>
    rcases (by omega : z = 1 ∨ z = 2 ∨ z = 3 ∨ z = 4 ∨ z = 5) with rfl | rfl | rfl | rfl | rfl <;> omega
theorem grid_ok {x y z : Int} (h : gridOk x y z = true) : (1 ≤ x ∧ x ≤ 8) ∧ (1 ≤ y ∧ y ≤ 6) ∧ (1 ≤ z ∧ z ≤ 5) ∧ 1 ≤ x * y ∧ x * y ≤ 48 ∧ 1 ≤ x * y * z ∧ x * y * z ≤ 120 := by
  simp only [gridOk, decide_eq_true_eq] at h
  have := grid_prod (x := x) (y := y) (z := z) (by omega) (by omega) (by omega)
  omega
theorem grid_wrap {x y z : Int} (hx : 1 ≤ x ∧ x ≤ 8) (hy : 1 ≤ y ∧ y ≤ 6) (hz : 1 ≤ z ∧ z ≤ 5) : wrap64 (wrap64 (x * y) * z) = x * y * z := by
  have := grid_prod hx hy hz
  rw [wrap_id (x := x * y) (by omega) (by omega), wrap_id (by omega) (by omega)]
def modelOk (x y z : Int) (t g r : List Int) : Bool := gridOk x y z && decide ((t.length : Int) = x * y * z ∧ (g.length : Int) = x * y * z ∧ (r.length : Int) = x * y * z) && (allIn 0 10000 t && (allIn 0 1000 g && allIn 0 4 r))
/-- A fraction in lowest terms, of numbers that are not negative. -/
def low (a b : Int) : Int × Int := (a / (Nat.gcd a.natAbs b.natAbs : Int), b / (Nat.gcd a.natAbs b.natAbs : Int))
theorem low_bd {a b : Int} (ha : 0 ≤ a) (hb : 0 < b) : 1 ≤ (Nat.gcd a.natAbs b.natAbs : Int) ∧ 0 ≤ (low a b).1 ∧ (low a b).1 ≤ a ∧ 1 ≤ (low a b).2 ∧ (low a b).2 ≤ b ∧ a = (low a b).1 * (Nat.gcd a.natAbs b.natAbs : Int) ∧ b = (low a b).2 * (Nat.gcd a.natAbs b.natAbs : Int) := by
  have hg : 0 < Nat.gcd a.natAbs b.natAbs := Nat.gcd_pos_of_pos_right _ (by omega)
  have d1 : (Nat.gcd a.natAbs b.natAbs : Int) ∣ a := Int.natAbs_dvd_natAbs.1 (by simpa using Nat.gcd_dvd_left a.natAbs b.natAbs)
  have d2 : (Nat.gcd a.natAbs b.natAbs : Int) ∣ b := Int.natAbs_dvd_natAbs.1 (by simpa using Nat.gcd_dvd_right a.natAbs b.natAbs)
  have e1 := Int.ediv_mul_cancel d1
  have e2 := Int.ediv_mul_cancel d2
  have h1 : 0 ≤ a / (Nat.gcd a.natAbs b.natAbs : Int) := Int.ediv_nonneg ha (by omega)
  have h2 : a / (Nat.gcd a.natAbs b.natAbs : Int) ≤ a := Int.ediv_le_self _ ha
  have h3 : 0 ≤ b / (Nat.gcd a.natAbs b.natAbs : Int) := Int.ediv_nonneg (by omega) (by omega)
  have h4 : b / (Nat.gcd a.natAbs b.natAbs : Int) ≤ b := Int.ediv_le_self _ (by omega)
  refine ⟨by omega, h1, h2, ?_, h4, e1.symm, e2.symm⟩
  by_cases h5 : b / (Nat.gcd a.natAbs b.natAbs : Int) = 0
  · rw [h5] at e2; omega
  · show 1 ≤ b / (Nat.gcd a.natAbs b.natAbs : Int); omega
end Go.Proofs.Ytagnldmaglbpaaa.Model
namespace Go.Proofs.Ytagnldmaglbpaaa.PureFnExactFactorOf
open Go.RowKit Go.Proofs.Ytagnldmaglbpaaa.PFnExactFactorOf Go.Proofs.YtagnldmaglbpaaaW.PrintWords Go.Proofs.YtagnldmaglbpaaaW.PrintLast Go.Proofs.YtagnldmaglbpaaaW.PrintMore Go.Proofs.Ytagnldmaglbpaaa.Kit Go.Proofs.Ytagnldmaglbpaaa.Model
theorem laws_szIntS_eq (l : List Int) (a : Int) (h0 : 0 ≤ a) (ha : a ≤ 1048576) (hn : l.length ≤ 9223372036854775807) : laws_szIntS.f l a = some (if a < l.length then -1 else a - l.length) := by
  simp only [laws_szIntS.f]
  rw [wrap_id (by omega) (by omega)]
  split
  · rw [if_pos (by omega)]
  · rw [if_neg (by omega)]
theorem laws_szModel_eq (x y z : Int) (t g r : List Int) (a : Int) (h0 : 0 ≤ a) (ha : a ≤ 1048576) (ht : t.length ≤ 9223372036854775807) (hg : g.length ≤ 9223372036854775807) (hr : r.length ≤ 9223372036854775807) : laws_szModel.f x y z t g r a = some (left a (t.length + g.length + r.length)) := by
  simp only [laws_szModel.f, laws_szIntS_eq t a h0 ha ht, Option.bind_some]
  by_cases h1 : a < (t.length : Int)
  · rw [if_pos h1, if_pos (by omega), left_lt (by omega)]
  · rw [if_neg h1, if_neg (by omega), laws_szIntS_eq g _ (by omega) (by omega) hg, Option.bind_some]
    by_cases h2 : a - (t.length : Int) < (g.length : Int)
    · rw [if_pos h2, if_pos (by omega), left_lt (by omega)]
    · rw [if_neg h2, if_neg (by omega), laws_szIntS_eq r _ (by omega) (by omega) hr, Option.bind_some]
      by_cases h3 : a - (t.length : Int) - (g.length : Int) < (r.length : Int)
      · rw [if_pos h3, if_pos (by omega), left_lt (by omega)]
      · rw [if_neg h3, if_neg (by omega), left_ge (by omega)]; congr 1; omega
theorem laws_toIntS_l0 (l : List Int) (hn : l.length ≤ 9223372036854775807) : ∀ (ys : List Int) (i : Nat) (x : List Int), l.drop i = ys → x.length = l.length → x.take i = l.take i → Ev (fun k => laws_toIntS.l0 k l x i) l
  | [], i, x, h, hl, ht => Ev.next0 fun k => by
      have h0 := drop_nil h
      have h1 : l.length = l.length := by simp
      simp only [laws_toIntS.l0]
      rw [if_neg (by omega), copy_end hl ht (by omega)]
  | y :: ys, i, x, h, hl, ht => by
      obtain ⟨h1, h2, h3⟩ := drop_cons h
      have hm : l.length = l.length := by simp
      have hg : l[i]? = some y := by simp [h2]
      obtain ⟨c1, c2⟩ := copy_step hg hl ht
      refine Ev.next1 (laws_toIntS_l0 l hn ys (i + 1) (x.set i y) h3 c1 c2) fun k hk => ?_
      have e := rd_drop h
      simp only [laws_toIntS.l0, e, Option.bind_some]
      rw [if_pos (by omega), if_pos (by omega), if_pos (by omega), wrap_succ h1 hn, toNat_cast]
      exact hk
theorem laws_toIntS_ev (l : List Int) (hn : l.length ≤ 35184372088832) : Ev (fun k => laws_toIntS.f k l) l :=
  Ev.of1 (laws_toIntS_l0 l (by omega) l 0 (List.replicate ((l.length : Int)).toNat 0) rfl (by simp) rfl) fun k hk => by
    simp only [laws_toIntS.f]
    rw [if_pos (by omega), if_pos (by omega)]
    exact hk
theorem laws_toModel_ev (x y z : Int) (t g r : List Int) (ht : t.length ≤ 1048576) (hg : g.length ≤ 1048576) (hr : r.length ≤ 1048576) : Ev (fun k => laws_toModel.f k x y z t g r) (x, y, z, t, g, r) :=
  (ev_and (laws_toIntS_ev t (by omega)) <| ev_and (laws_toIntS_ev g (by omega)) <| ev_one (laws_toIntS_ev r (by omega))).ev fun k ⟨h1, h2, h3⟩ => by
    simp only [laws_toModel.f, laws_toGrid.f, h1, h2, h3, Option.bind_some]
theorem laws_eqIntS_l0 (l : List Int) (hn : l.length ≤ 9223372036854775807) : ∀ (ys : List Int) (i : Nat), l.drop i = ys → Ev (fun k => laws_eqIntS.l0 k l l i) true
  | [], i, h => Ev.next0 fun k => by
      have h0 := drop_nil h
      simp only [laws_eqIntS.l0]
      rw [if_neg (by omega)]
  | y :: ys, i, h => by
      obtain ⟨h1, h2, h3⟩ := drop_cons h
      refine Ev.next1 (laws_eqIntS_l0 l hn ys (i + 1) h3) fun k hk => ?_
      have e := rd_drop h
      simp only [laws_eqIntS.l0, e]
      rw [if_pos (by omega), if_pos (by omega), if_pos (by omega), if_pos (by simp), wrap_succ h1 hn]
      exact hk
theorem laws_eqIntS_ev (l : List Int) (hn : l.length ≤ 9223372036854775807) : Ev (fun k => laws_eqIntS.f k l l) true :=
  Ev.of1 (laws_eqIntS_l0 l hn l 0 rfl) fun k hk => by
    simp only [laws_eqIntS.f]
    rw [if_pos (by simp)]
    exact hk
theorem laws_eqModel_ev (x y z : Int) (t g r : List Int) (ht : t.length ≤ 1048576) (hg : g.length ≤ 1048576) (hr : r.length ≤ 1048576) : Ev (fun k => laws_eqModel.f k x y z t g r x y z t g r) true :=
  (ev_and (laws_eqIntS_ev t (by omega)) <| ev_and (laws_eqIntS_ev g (by omega)) <| ev_one (laws_eqIntS_ev r (by omega))).ev fun k ⟨h1, h2, h3⟩ => by
    simp [laws_eqModel.f, laws_eqGrid.f, h1, h2, h3]
theorem spec_l1In_eq (a lo hi : Int) : spec_l1In.f a lo hi = some (decide (lo ≤ a ∧ a ≤ hi)) := by
  unfold spec_l1In.f
  split
  · congr 1; simp; omega
  · congr 1; simp; omega
theorem spec_grGood_eq (x y z : Int) : spec_grGood.f x y z = some (gridOk x y z) := by
  simp only [spec_grGood.f, spec_l1In_eq, Option.bind_some, decide_eq_true_eq, gridOk]
  by_cases hx : 1 ≤ x ∧ x ≤ 8
  · rw [if_pos hx]
    by_cases hy : 1 ≤ y ∧ y ≤ 6
    · rw [if_pos hy]
      by_cases hz : 1 ≤ z ∧ z ≤ 5
      · rw [if_pos hz, grid_wrap hx hy hz]; congr 1; simp [hx, hy, hz]
      · rw [if_neg hz]; congr 1; symm; simp; omega
    · rw [if_neg hy]; congr 1; symm; simp; omega
  · rw [if_neg hx]; congr 1; symm; simp; omega
theorem spec_grCount_eq (x y z : Int) (h : gridOk x y z = true) : spec_grCount.f x y z = some (x * y * z) := by
  have hb := grid_ok h
  simp only [spec_grCount.f]
  rw [grid_wrap hb.1 hb.2.1 hb.2.2.1]
theorem spec_l1All_l0 (lo hi : Int) (l : List Int) (hn : l.length ≤ 9223372036854775807) : ∀ (ys : List Int) (i : Nat), l.drop i = ys → Ev (fun k => spec_l1All.l0 k lo hi l (l.length : Int) i) (allIn lo hi ys)
  | [], i, h => Ev.next0 fun k => by
      have h0 := drop_nil h
      simp only [spec_l1All.l0, allIn]
      rw [if_neg (by omega)]
  | y :: ys, i, h => by
      obtain ⟨h1, h2, h3⟩ := drop_cons h
      refine Ev.next1 (spec_l1All_l0 lo hi l hn ys (i + 1) h3) fun k hk => ?_
      have e := rd_drop h
      simp only [spec_l1All.l0, e, spec_l1In_eq, Option.bind_some]
      rw [if_pos (by omega), if_pos (by omega), if_pos (by omega), wrap_succ h1 hn]
      by_cases hy : lo ≤ y ∧ y ≤ hi
      · rw [if_pos (decide_eq_true hy), hk]; simp [allIn, hy]
      · rw [if_neg (by simp; omega)]; simp [allIn, hy]
theorem spec_l1All_ev (l : List Int) (lo hi : Int) (hn : l.length ≤ 9223372036854775807) : Ev (fun k => spec_l1All.f k l lo hi) (allIn lo hi l) :=
  Ev.of1 (spec_l1All_l0 lo hi l hn l 0 rfl) fun k hk => by simp only [spec_l1All.f]; exact hk
theorem spec_moGood_ev (x y z : Int) (t g r : List Int) (ht : t.length ≤ 1048576) (hg : g.length ≤ 1048576) (hr : r.length ≤ 1048576) : Ev (fun k => spec_moGood.f k x y z t g r) (modelOk x y z t g r) :=
  (ev_and (spec_l1All_ev t 0 10000 (by omega)) <| ev_and (spec_l1All_ev g 0 1000 (by omega)) <| ev_one (spec_l1All_ev r 0 4 (by omega))).ev fun k ⟨h1, h2, h3⟩ => by
    simp only [spec_moGood.f, spec_grGood_eq, Option.bind_some, modelOk]
    by_cases h : gridOk x y z = true
    · rw [if_pos h, spec_grCount_eq x y z h, Option.bind_some, h1, h2, h3]
      simp only [Option.bind_some, h, Bool.true_and]
      by_cases e1 : (t.length : Int) = x * y * z
      · rw [if_pos e1]
        by_cases e2 : (g.length : Int) = x * y * z
        · rw [if_pos e2]
          by_cases e3 : (r.length : Int) = x * y * z
          · rw [if_pos e3, decide_eq_true ⟨e1, e2, e3⟩]
            cases allIn 0 10000 t <;> cases allIn 0 1000 g <;> simp
          · rw [if_neg e3, decide_eq_false (fun h => e3 h.2.2)]; rfl
        · rw [if_neg e2, decide_eq_false (fun h => e2 h.2.1)]; rfl
      · rw [if_neg e1, decide_eq_false (fun h => e1 h.1)]; rfl
    · rw [if_neg h]; simp [h]
theorem spec_rcBoth_ev (x y z : Int) (t g r : List Int) (x' y' z' : Int) (t' g' r' : List Int) (ht : t.length ≤ 1048576) (hg : g.length ≤ 1048576) (hr : r.length ≤ 1048576) (ht' : t'.length ≤ 1048576) (hg' : g'.length ≤ 1048576) (hr' : r'.length ≤ 1048576) : Ev (fun k => spec_rcBoth.f k x y z t g r x' y' z' t' g' r') (modelOk x y z t g r && (modelOk x' y' z' t' g' r' && (x == x' && (y == y' && (z == z'))))) :=
  (ev_and (spec_moGood_ev x y z t g r ht hg hr) <| ev_one (spec_moGood_ev x' y' z' t' g' r' ht' hg' hr')).ev fun k ⟨h1, h2⟩ => by
    simp only [spec_rcBoth.f, h1, h2, Option.bind_some]
    by_cases h : modelOk x y z t g r = true
    · rw [if_pos h, h]
      by_cases h' : modelOk x' y' z' t' g' r' = true
      · rw [if_pos h', h']; rfl
      · rw [if_neg h']; simp [h']
    · rw [if_neg h]; simp [h]
theorem spec_l1Rising_l0 (n : Int) (l : List Int) (hn : l.length ≤ 9223372036854775807) : ∀ (ys : List Int) (i : Nat) (p : Int), l.drop i = ys → (i = 0 ∧ p = -1 ∨ 0 < i ∧ l[i - 1]? = some p) → Ev (fun k => spec_l1Rising.l0 k l 0 (n - 1) l (l.length : Int) i) (rise n p ys)
  | [], i, p, h, hp => Ev.next0 fun k => by
      have h0 := drop_nil h
      simp only [spec_l1Rising.l0, rise]
      rw [if_neg (by omega)]
  | y :: ys, i, p, h, hp => by
      obtain ⟨h1, h2, h3⟩ := drop_cons h
      refine Ev.next1 (spec_l1Rising_l0 n l hn ys (i + 1) y h3 (.inr ⟨by omega, by simpa using h2⟩)) fun k hk => ?_
      have e := rd_drop h
      simp only [spec_l1Rising.l0, e, spec_l1In_eq, Option.bind_some, rise]
      rw [if_pos (by omega), if_pos (by omega), if_pos (by omega), wrap_succ h1 hn]
      by_cases hy : 0 ≤ y ∧ y < n
      · rw [if_pos (by simp; omega)]
        rcases hp with ⟨rfl, rfl⟩ | ⟨hi, hp⟩
        · rw [if_neg (by omega), hk]; simp; omega
        · have e2 : rd l (wrap64 ((i : Int) - 1)) = p := by
            rw [wrap_id (by omega) (by omega), show (i : Int) - 1 = ((i - 1 : Nat) : Int) by omega]; exact rd_get hp
          rw [if_pos (by omega), wrap_id (by omega) (by omega), if_pos (by omega), if_pos (by omega)]
          rw [wrap_id (by omega) (by omega)] at e2
          rw [e2]
          by_cases hq : p < y
          · rw [if_neg (by omega), hk]; simp [hy, hq]
          · rw [if_pos (by omega)]; simp [hq]
      · rw [if_neg (by simp; omega)]; congr 1; symm; simp; omega
theorem spec_l1Rising_ev (n : Int) (l : List Int) (hn : l.length ≤ 9223372036854775807) : Ev (fun k => spec_l1Rising.f k l 0 (n - 1)) (rise n (-1) l) :=
  Ev.of1 (spec_l1Rising_l0 n l hn l 0 (-1) rfl (.inl ⟨rfl, rfl⟩)) fun k hk => by simp only [spec_l1Rising.f]; exact hk
theorem spec_moList_ev (x y z : Int) (t g r s : List Int) (ht : t.length ≤ 1048576) (hg : g.length ≤ 1048576) (hr : r.length ≤ 1048576) (hs : s.length ≤ 1048576) : Ev (fun k => spec_moList.f k x y z t g r s) (modelOk x y z t g r && rise (x * y * z) (-1) s) := by
  by_cases h : modelOk x y z t g r = true
  · have hgr : gridOk x y z = true := by have h1 := h; simp only [modelOk, Bool.and_eq_true] at h1; exact h1.1.1
    have hb := grid_ok hgr
    refine (ev_and (spec_moGood_ev x y z t g r ht hg hr) <| ev_one (spec_l1Rising_ev (x * y * z) s (by omega))).ev fun k ⟨h1, h2⟩ => ?_
    simp only [spec_moList.f, h1, spec_grCount_eq x y z hgr, Option.bind_some]
    rw [if_pos h, wrap_id (by omega) (by omega), h2]; simp [h]
  · refine (ev_one (spec_moGood_ev x y z t g r ht hg hr)).ev fun k h1 => ?_
    simp only [spec_moList.f, h1, Option.bind_some]
    rw [if_neg h]; simp [h]
/-- The lists of a model that is good: their lengths and bounds. -/
theorem model_ok {x y z : Int} {t g r : List Int} (h : modelOk x y z t g r = true) : gridOk x y z = true ∧ ((t.length : Int) = x * y * z ∧ (g.length : Int) = x * y * z ∧ (r.length : Int) = x * y * z) ∧ allIn 0 10000 t = true ∧ allIn 0 1000 g = true ∧ allIn 0 4 r = true := by
  simp only [modelOk, Bool.and_eq_true, decide_eq_true_eq] at h
  exact ⟨h.1.1, h.1.2, h.2.1, h.2.2.1, h.2.2.2⟩
theorem rd_in {lo hi : Int} {l : List Int} (h : allIn lo hi l = true) {i : Int} (h0 : 0 ≤ i) (h1 : i < (l.length : Int)) : lo ≤ rd l i ∧ rd l i ≤ hi := by
  have hg : l[i.toNat]? = some (l[i.toNat]'(by omega)) := List.getElem?_eq_getElem (by omega)
  have h5 := rd_get hg
  rw [show ((i.toNat : Nat) : Int) = i by omega] at h5
  rw [h5]; exact allIn_get h hg
theorem metal_bd {t g : List Int} (ht : allIn 0 10000 t = true) (hg : allIn 0 1000 g = true) {i : Int} (h0 : 0 ≤ i) (h1 : i < (t.length : Int)) (h2 : i < (g.length : Int)) : (0 ≤ rd t i ∧ rd t i ≤ 10000) ∧ 0 ≤ rd t i * rd g i ∧ rd t i * rd g i ≤ 10000000 := by
  have a := rd_in ht h0 h1; have b := rd_in hg h0 h2
  exact ⟨a, Int.mul_nonneg a.1 b.1, Int.mul_le_mul (a := rd t i) (b := rd g i) (c := 10000) (d := 1000) a.2 b.2 b.1 (by omega)⟩
theorem spec_moMetal_eq (x y z : Int) (t g r : List Int) (i : Int) (ht : allIn 0 10000 t = true) (hg : allIn 0 1000 g = true) (h0 : 0 ≤ i) (h1 : i < (t.length : Int)) (h2 : i < (g.length : Int)) : spec_moMetal.f x y z t g r i = some (rd t i * rd g i) := by
  have hb := metal_bd ht hg h0 h1 h2
  simp only [spec_moMetal.f]
  rw [if_pos h0, if_pos h1, if_pos h2, wrap_id (by omega) (by omega)]
-- needs: spec_moMetal
/-- Tonnes, and metal, of chosen blocks. -/
def selT (t : List Int) : List Int → Int
  | [] => 0
  | q :: qs => rd t q + selT t qs
def selM (t g : List Int) : List Int → Int
  | [] => 0
  | q :: qs => rd t q * rd g q + selM t g qs
theorem sel_bd {t g : List Int} (ht : allIn 0 10000 t = true) (hg : allIn 0 1000 g = true) : ∀ I : List Int, (∀ q ∈ I, 0 ≤ q ∧ q < (t.length : Int) ∧ q < (g.length : Int)) → (0 ≤ selT t I ∧ selT t I ≤ 10000 * (I.length : Int)) ∧ (0 ≤ selM t g I ∧ selM t g I ≤ 10000000 * (I.length : Int))
  | [], _ => by simp [selT, selM]
  | q :: qs, h => by
    have hq := h q (by simp)
    have hb := metal_bd ht hg hq.1 hq.2.1 hq.2.2
    have ih := sel_bd ht hg qs (fun u hu => h u (by simp [hu]))
    simp only [selT, selM, List.length_cons]; push_cast; omega
theorem spec_moSums_l0 (x y z : Int) (t g r : List Int) (ht : allIn 0 10000 t = true) (hg : allIn 0 1000 g = true) (I : List Int) (hI : I.length ≤ 1048576) (hin : ∀ q ∈ I, 0 ≤ q ∧ q < (t.length : Int) ∧ q < (g.length : Int)) : ∀ (qs : List Int) (j : Nat) (a m : Int), I.drop j = qs → (0 ≤ a ∧ a ≤ 10000 * (j : Int)) → (0 ≤ m ∧ m ≤ 10000000 * (j : Int)) →
    Ev (fun k => spec_moSums.l0 k a m I (I.length : Int) j x y z t g r) (a + selT t qs, m + selM t g qs)
  | [], j, a, m, hj, ha, hm => Ev.next0 fun k => by
      have h0 := drop_nil hj
      simp only [spec_moSums.l0, selT, selM, Int.add_zero]
      rw [if_neg (by omega)]
  | q :: qs, j, a, m, hj, ha, hm => by
      obtain ⟨h1, h2, h3⟩ := drop_cons hj
      have e := rd_drop hj
      have hq := hin q (List.mem_of_getElem? h2)
      have hb := metal_bd ht hg hq.1 hq.2.1 hq.2.2
      refine Ev.next1 (spec_moSums_l0 x y z t g r ht hg I hI hin qs (j + 1) (a + rd t q) (m + rd t q * rd g q) h3 (by omega) (by omega)) fun k hk => ?_
      simp only [spec_moSums.l0, e, spec_moMetal_eq x y z t g r q ht hg hq.1 hq.2.1 hq.2.2, Option.bind_some, selT, selM]
      rw [if_pos (by omega), if_pos (by omega), if_pos (by omega), if_pos hq.1, if_pos hq.2.1, wrap_succ h1 (by omega), wrap_id (x := a + rd t q) (by omega) (by omega), wrap_id (x := m + rd t q * rd g q) (by omega) (by omega), ← Int.add_assoc, ← Int.add_assoc]
      exact hk
theorem spec_moSums_ev (x y z : Int) (t g r : List Int) (ht : allIn 0 10000 t = true) (hg : allIn 0 1000 g = true) (I : List Int) (hI : I.length ≤ 1048576) (hin : ∀ q ∈ I, 0 ≤ q ∧ q < (t.length : Int) ∧ q < (g.length : Int)) : Ev (fun k => spec_moSums.f k x y z t g r I) (selT t I, selM t g I) := by
  have h0 := spec_moSums_l0 x y z t g r ht hg I hI hin I 0 0 0 rfl (by omega) (by omega)
  rw [Int.zero_add, Int.zero_add] at h0
  exact Ev.of1 h0 fun k hk => by simp only [spec_moSums.f]; exact hk
theorem spec_moPart_l0 (x y : Int) : ∀ (n b a : Nat), b ≤ n → 0 < a + b → Ev (fun k => spec_moPart.l0 k x y (a : Int) (b : Int)) (wrap64 (Int.tdiv x (Nat.gcd a b : Int)), wrap64 (Int.tdiv y (Nat.gcd a b : Int)))
  | n, 0, a, hn, h => Ev.next0 fun k => by
      simp only [spec_moPart.l0, Nat.gcd_zero_right]
      rw [if_neg (by omega), if_neg (by omega)]
  | 0, b + 1, a, hn, h => by omega
  | n + 1, b + 1, a, hn, h => by
      have hlt := Nat.mod_lt a (show 0 < b + 1 by omega)
      refine Ev.next1 (spec_moPart_l0 x y n (a % (b + 1)) (b + 1) (by omega) (by omega)) fun k hk => ?_
      have em : Int.tmod (a : Int) ((b + 1 : Nat) : Int) = ((a % (b + 1) : Nat) : Int) := by
        rw [Int.tmod_eq_emod_of_nonneg (by omega)]; exact (Int.natCast_emod a (b + 1)).symm
      have eg : Nat.gcd a (b + 1) = Nat.gcd (b + 1) (a % (b + 1)) := by
        rw [Nat.gcd_comm a (b + 1), Nat.gcd_rec (b + 1) a, Nat.gcd_comm]
      simp only [spec_moPart.l0]
      rw [if_pos (by omega), if_neg (by omega), em]
      rw [eg]; exact hk
theorem spec_moPart_ev (a b : Int) (ha : 0 ≤ a) (hb : 0 < b) (ha' : a ≤ 4611686018427387904) (hb' : b ≤ 4611686018427387904) : Ev (fun k => spec_moPart.f k a b) (low a b) := by
  have hl := low_bd ha hb
  have h := spec_moPart_l0 a b b.natAbs b.natAbs a.natAbs (by omega) (by omega)
  rw [Int.tdiv_eq_ediv_of_nonneg ha, Int.tdiv_eq_ediv_of_nonneg (by omega)] at h
  have e : (wrap64 (a / (Nat.gcd a.natAbs b.natAbs : Int)), wrap64 (b / (Nat.gcd a.natAbs b.natAbs : Int))) = low a b := by
    rw [show a / (Nat.gcd a.natAbs b.natAbs : Int) = (low a b).1 from rfl, show b / (Nat.gcd a.natAbs b.natAbs : Int) = (low a b).2 from rfl, wrap_id (by omega) (by omega), wrap_id (by omega) (by omega)]
  rw [e] at h
  refine Ev.of1 h fun k hk => ?_
  simp only [spec_moPart.f]
  rw [show ((a.natAbs : Nat) : Int) = a by omega, show ((b.natAbs : Nat) : Int) = b by omega] at hk
  exact hk
-- needs: spec_moMetal
theorem rise_len {n : Int} : ∀ {p : Int} {ys : List Int}, rise n p ys = true → p < n → (ys.length : Int) ≤ n - 1 - p
  | p, [], _, hp => by simp; omega
  | p, y :: ys, h, hp => by
    simp only [rise, Bool.and_eq_true, decide_eq_true_eq] at h
    have ih := rise_len h.2 h.1.2.1
    simp only [List.length_cons]; push_cast; omega
theorem prod_bd {a b A B : Int} (ha : 0 ≤ a) (hA : a ≤ A) (hb : 0 ≤ b) (hB : b ≤ B) : 0 ≤ a * b ∧ a * b ≤ A * B :=
  ⟨Int.mul_nonneg ha hb, Int.mul_le_mul hA hB hb (by omega)⟩
def ratio (a b : Int) : Int × Int × Bool := if b = 0 then (0, 0, false) else ((low a b).1, (low a b).2, true)
def factor (c ta ma tb mb : Int) : Int × Int × Bool := if c = 0 then ratio tb ta else if c = 1 then ratio mb ma else if ta = 0 then (0, 0, false) else ratio (mb * ta) (tb * ma)
-- needs: factor_model spec_moSums
def factorOf (x y z : Int) (t g r : List Int) (x' y' z' : Int) (t' g' r' s : List Int) (c : Int) : Int × Int × Bool := if (modelOk x y z t g r = true ∧ modelOk x' y' z' t' g' r' = true ∧ x = x' ∧ y = y' ∧ z = z') ∧ rise (x * y * z) (-1) s = true ∧ (0 ≤ c ∧ c ≤ 2) then factor c (selT t s) (selM t g s) (selT t' s) (selM t' g' s) else (0, 0, false)
theorem factor_facts {x y z : Int} {t g r : List Int} {x' y' z' : Int} {t' g' r' s : List Int} (h : modelOk x y z t g r = true ∧ modelOk x' y' z' t' g' r' = true ∧ x = x' ∧ y = y' ∧ z = z') (hs : rise (x * y * z) (-1) s = true) : s.length ≤ 120 ∧ (∀ q ∈ s, 0 ≤ q ∧ q < (t.length : Int) ∧ q < (g.length : Int)) ∧ (∀ q ∈ s, 0 ≤ q ∧ q < (t'.length : Int) ∧ q < (g'.length : Int)) ∧ (t.length : Int) = x * y * z := by
  obtain ⟨hgr, l1, _⟩ := model_ok h.1
  obtain ⟨_, l2, _⟩ := model_ok h.2.1
  have hb := grid_ok hgr
  rw [← h.2.2.1, ← h.2.2.2.1, ← h.2.2.2.2] at l2
  generalize x * y * z = p at l1 l2 hb hs ⊢
  have := rise_len hs (by omega)
  refine ⟨by omega, fun q hq => ?_, fun q hq => ?_, by omega⟩ <;> (have := rise_mem hs q hq; omega)
-- needs: factor_of
theorem spec_FactorOf_ratio (a b : Int) (ha : 0 ≤ a) (hb : 0 ≤ b) (ha' : a ≤ 1500000000000000) (hb' : b ≤ 1500000000000000) : Ev (fun k => if b = 0 then (some (0, 0, false) : Option (Int × Int × Bool)) else (spec_moPart.f k a b).bind fun p => (some (p.1, p.2, true))) (ratio a b) := by
  by_cases h : b = 0
  · exact Ev.all fun k => by rw [if_pos h, ratio, if_pos h]
  · exact (ev_one (spec_moPart_ev a b ha (by omega) (by omega) (by omega))).ev fun k h1 => by
      rw [if_neg h, h1, ratio, if_neg h]; rfl
theorem spec_FactorOf_j1 (ta ma tb mb : Int) (a0 : 0 ≤ ta) (a1 : ta ≤ 1200000) (b0 : 0 ≤ ma) (b1 : ma ≤ 1200000000) (c0 : 0 ≤ tb) (c1 : tb ≤ 1200000) (d0 : 0 ≤ mb) (d1 : mb ≤ 1200000000) : Ev (fun k => spec_FactorOf.j1 k ta ma tb mb false) (ratio (mb * ta) (tb * ma)) := by
  have p1 := prod_bd d0 d1 a0 a1
  have p2 := prod_bd c0 c1 b0 b1
  refine (ev_one (spec_FactorOf_ratio (mb * ta) (tb * ma) p1.1 p2.1 (by omega) (by omega))).next fun k h1 => ?_
  simp only [spec_FactorOf.j1]
  rw [if_neg (by simp), wrap_id (x := tb * ma) (by omega) (by omega), wrap_id (x := mb * ta) (by omega) (by omega)]; exact h1
theorem spec_FactorOf_j1no (ta ma tb mb : Int) : Ev (fun k => spec_FactorOf.j1 k ta ma tb mb true) (0, 0, false) := Ev.next0 fun k => by simp [spec_FactorOf.j1]
theorem spec_FactorOf_yes (x y z : Int) (t g r : List Int) (x' y' z' : Int) (t' g' r' : List Int) (ht : t.length ≤ 1048576) (hg : g.length ≤ 1048576) (hr : r.length ≤ 1048576) (ht' : t'.length ≤ 1048576) (hg' : g'.length ≤ 1048576) (hr' : r'.length ≤ 1048576) (s : List Int) (c : Int) (h : modelOk x y z t g r = true ∧ modelOk x' y' z' t' g' r' = true ∧ x = x' ∧ y = y' ∧ z = z') (hs : rise (x * y * z) (-1) s = true) (hc : 0 ≤ c ∧ c ≤ 2) : Ev (fun k => spec_FactorOf.j0 k s c false x y z t g r x' y' z' t' g' r') (factor c (selT t s) (selM t g s) (selT t' s) (selM t' g' s)) := by
  obtain ⟨f1, f2, f3, _⟩ := factor_facts h hs
  obtain ⟨_, _, v1, v2, _⟩ := model_ok h.1
  obtain ⟨_, _, u1, u2, _⟩ := model_ok h.2.1
  have s1 := spec_moSums_ev x y z t g r v1 v2 s (by omega) f2
  have s2 := spec_moSums_ev x' y' z' t' g' r' u1 u2 s (by omega) f3
  have q1 := sel_bd v1 v2 s f2
  have q2 := sel_bd u1 u2 s f3
  generalize selT t s = ta at s1 q1 ⊢
  generalize selM t g s = ma at s1 q1 ⊢
  generalize selT t' s = tb at s2 q2 ⊢
  generalize selM t' g' s = mb at s2 q2 ⊢
  have a0 : 0 ≤ ta := q1.1.1
  have a1 : ta ≤ 1200000 := by omega
  have b0 : 0 ≤ ma := q1.2.1
  have b1 : ma ≤ 1200000000 := by omega
  have c0 : 0 ≤ tb := q2.1.1
  have c1 : tb ≤ 1200000 := by omega
  have d0 : 0 ≤ mb := q2.2.1
  have d1 : mb ≤ 1200000000 := by omega
  clear q1 q2
  rcases (by omega : c = 0 ∨ c = 1 ∨ c = 2) with e | e | e
  · refine (ev_and s1 <| ev_and s2 <| ev_one (spec_FactorOf_ratio tb ta c0 a0 (by omega) (by omega))).next fun k ⟨h1, h2, h3⟩ => ?_
    simp only [spec_FactorOf.j0, h1, h2, Option.bind_some]
    have hf : factor c ta ma tb mb = ratio tb ta := by rw [factor, if_pos e]
    rw [if_neg (by simp), if_neg (by omega), if_neg (by omega), hf]; exact h3
  · refine (ev_and s1 <| ev_and s2 <| ev_one (spec_FactorOf_ratio mb ma d0 b0 (by omega) (by omega))).next fun k ⟨h1, h2, h3⟩ => ?_
    simp only [spec_FactorOf.j0, h1, h2, Option.bind_some]
    have hf : factor c ta ma tb mb = ratio mb ma := by rw [factor, if_neg (by omega), if_pos e]
    rw [if_neg (by simp), if_pos e, hf]; exact h3
  · refine (ev_and s1 <| ev_and s2 <| ev_and (spec_FactorOf_j1 ta ma tb mb a0 a1 b0 b1 c0 c1 d0 d1) <| ev_one (spec_FactorOf_j1no ta ma tb mb)).next fun k ⟨h1, h2, h3, h4⟩ => ?_
    simp only [spec_FactorOf.j0, h1, h2, Option.bind_some]
    have hf : factor c ta ma tb mb = if ta = 0 then (0, 0, false) else ratio (mb * ta) (tb * ma) := by rw [factor, if_neg (by omega), if_neg (by omega)]
    rw [if_neg (by simp), if_neg (by omega), if_pos e, hf]
    by_cases hb : tb = 0
    · rw [if_pos hb, h4]
      by_cases ha : ta = 0
      · rw [if_pos ha]
      · rw [if_neg ha, ratio, if_pos (by rw [hb, Int.zero_mul])]
    · rw [if_neg hb]
      by_cases ha : ta = 0
      · rw [if_pos ha, show (ta == 0) = true by simp [ha], h4]
      · rw [if_neg ha, show (ta == 0) = false by simp [ha], h3]
theorem spec_FactorOf_no (x y z : Int) (t g r : List Int) (x' y' z' : Int) (t' g' r' : List Int) (s : List Int) (c : Int) : Ev (fun k => spec_FactorOf.j0 k s c true x y z t g r x' y' z' t' g' r') (0, 0, false) := Ev.next0 fun k => by simp [spec_FactorOf.j0]
theorem spec_FactorOf_ev (x y z : Int) (t g r : List Int) (x' y' z' : Int) (t' g' r' : List Int) (ht : t.length ≤ 1048576) (hg : g.length ≤ 1048576) (hr : r.length ≤ 1048576) (ht' : t'.length ≤ 1048576) (hg' : g'.length ≤ 1048576) (hr' : r'.length ≤ 1048576) (s : List Int) (hs : s.length ≤ 1048576) (c : Int) : Ev (fun k => spec_FactorOf.f k x y z t g r x' y' z' t' g' r' s c) (factorOf x y z t g r x' y' z' t' g' r' s c) := by
  have h0 := spec_rcBoth_ev x y z t g r x' y' z' t' g' r' ht hg hr ht' hg' hr'
  have hl := spec_moList_ev x y z t g r s ht hg hr hs
  have hn := spec_FactorOf_no x y z t g r x' y' z' t' g' r' s c
  by_cases h : modelOk x y z t g r = true ∧ modelOk x' y' z' t' g' r' = true ∧ x = x' ∧ y = y' ∧ z = z'
  · have et : (modelOk x y z t g r && (modelOk x' y' z' t' g' r' && (x == x' && (y == y' && (z == z'))))) = true := by simp only [h.1, h.2.1, Bool.true_and]; simp [h.2.2]
    
    by_cases hr1 : rise (x * y * z) (-1) s = true
    · by_cases hc : 0 ≤ c ∧ c ≤ 2
      · refine (ev_and h0 <| ev_and hl <| ev_one (spec_FactorOf_yes x y z t g r x' y' z' t' g' r' ht hg hr ht' hg' hr' s c h hr1 hc)).ev fun k ⟨k1, k2, k3⟩ => ?_
        simp only [spec_FactorOf.f, spec_l1In_eq, k1, k2, Option.bind_some]
        have ef : factorOf x y z t g r x' y' z' t' g' r' s c = factor c (selT t s) (selM t g s) (selT t' s) (selM t' g' s) := by rw [factorOf, if_pos ⟨h, hr1, hc⟩]
        rw [if_pos et, if_pos (by simp [h.1, hr1]), ef]
        rw [show (!decide (0 ≤ c ∧ c ≤ 2)) = false by simp [hc]]; exact k3
      · refine (ev_and h0 <| ev_and hl <| ev_one hn).ev fun k ⟨k1, k2, k3⟩ => ?_
        simp only [spec_FactorOf.f, spec_l1In_eq, k1, k2, Option.bind_some]
        have ef : factorOf x y z t g r x' y' z' t' g' r' s c = (0, 0, false) := by rw [factorOf, if_neg (fun q => hc q.2.2)]
        rw [if_pos et, if_pos (by simp [h.1, hr1]), ef]
        rw [show (!decide (0 ≤ c ∧ c ≤ 2)) = true by rw [decide_eq_false hc]; rfl]; exact k3
    · refine (ev_and h0 <| ev_and hl <| ev_one hn).ev fun k ⟨k1, k2, k3⟩ => ?_
      simp only [spec_FactorOf.f, k1, k2, Option.bind_some]
      have ef : factorOf x y z t g r x' y' z' t' g' r' s c = (0, 0, false) := by rw [factorOf, if_neg (fun q => hr1 q.2.1)]
      rw [if_pos et, if_neg (by simp [hr1]), ef]; exact k3
  · refine (ev_and h0 <| ev_one hn).ev fun k ⟨k1, k3⟩ => ?_
    simp only [spec_FactorOf.f, k1, Option.bind_some]
    rw [if_neg (by simpa using h), factorOf, if_neg (fun q => h q.1)]; exact k3
theorem impl_IsGrid_eq (x y z : Int) : impl_IsGrid.f x y z = some (gridOk x y z) := by
  simp only [impl_IsGrid.f, gridOk]
  by_cases hx : 1 ≤ x ∧ x ≤ 8
  · rw [if_pos (by omega), if_pos (by omega)]
    by_cases hy : 1 ≤ y ∧ y ≤ 6
    · rw [if_pos (by omega), if_pos (by omega)]
      by_cases hz : 1 ≤ z ∧ z ≤ 5
      · rw [if_pos (by omega), if_pos (by omega), grid_wrap hx hy hz]; congr 1; simp [hx, hy, hz]
      · have e : decide (1 ≤ x ∧ x ≤ 8 ∧ 1 ≤ y ∧ y ≤ 6 ∧ 1 ≤ z ∧ z ≤ 5 ∧ x * y * z ≤ 120) = false := by simp; omega
        rw [e]; split
        · rw [if_neg (by omega)]
        · rfl
    · have e : decide (1 ≤ x ∧ x ≤ 8 ∧ 1 ≤ y ∧ y ≤ 6 ∧ 1 ≤ z ∧ z ≤ 5 ∧ x * y * z ≤ 120) = false := by simp; omega
      rw [e]; split
      · rw [if_neg (by omega)]
      · rfl
  · have e : decide (1 ≤ x ∧ x ≤ 8 ∧ 1 ≤ y ∧ y ≤ 6 ∧ 1 ≤ z ∧ z ≤ 5 ∧ x * y * z ≤ 120) = false := by simp; omega
    rw [e]; split
    · rw [if_neg (by omega)]
    · rfl
theorem impl_blocksOf_eq (x y z : Int) (h : gridOk x y z = true) : impl_blocksOf.f x y z = some (x * y * z) := by
  have hb := grid_ok h
  simp only [impl_blocksOf.f]
  rw [grid_wrap hb.1 hb.2.1 hb.2.2.1]
theorem impl_IsModel_l0 (x y z : Int) (t g r : List Int) (n : Nat) (hn : n ≤ 1048576) (ht : t.length = n) (hg : g.length = n) (hr : r.length = n) : ∀ (ts gs rs : List Int) (i : Nat), t.drop i = ts → g.drop i = gs → r.drop i = rs → Ev (fun k => impl_IsModel.l0 k (n : Int) i x y z t g r) (allIn 0 10000 ts && (allIn 0 1000 gs && allIn 0 4 rs))
  | [], gs, rs, i, h, hg', hr' => Ev.next0 fun k => by
      have h0 := drop_nil h
      have e1 : gs = [] := by rw [← hg']; exact List.drop_of_length_le (by omega)
      have e2 : rs = [] := by rw [← hr']; exact List.drop_of_length_le (by omega)
      subst e1 e2
      simp only [impl_IsModel.l0, allIn]
      rw [if_neg (by omega)]; rfl
  | a :: ts, [], rs, i, h, hg', hr' => by have h1 := (drop_cons h).1; have h2 := drop_nil hg'; omega
  | a :: ts, b :: gs, [], i, h, hg', hr' => by have h1 := (drop_cons h).1; have h2 := drop_nil hr'; omega
  | a :: ts, b :: gs, c :: rs, i, h, hg', hr' => by
      obtain ⟨h1, h2, h3⟩ := drop_cons h
      obtain ⟨g1, g2, g3⟩ := drop_cons hg'
      obtain ⟨r1, r2, r3⟩ := drop_cons hr'
      have ea := rd_drop h
      have eb := rd_drop hg'
      have ec := rd_drop hr'
      refine Ev.next1 (impl_IsModel_l0 x y z t g r n hn ht hg hr ts gs rs (i + 1) h3 g3 r3) fun k hk => ?_
      simp only [impl_IsModel.l0, ea, eb, ec]
      rw [if_pos (by omega), if_pos (by omega), if_pos (by omega)]
      by_cases ka : 0 ≤ a ∧ a ≤ 10000
      · rw [if_neg (by omega), if_neg (by omega), if_pos (by omega)]
        by_cases kb : 0 ≤ b ∧ b ≤ 1000
        · rw [if_neg (by omega), if_neg (by omega), if_pos (by omega)]
          by_cases kc : 0 ≤ c ∧ c ≤ 4
          · rw [if_neg (by omega), if_neg (by omega), wrap_succ h1 (by omega), hk]
            simp [allIn, ka, kb, kc]
          · have e : (allIn 0 10000 (a :: ts) && (allIn 0 1000 (b :: gs) && allIn 0 4 (c :: rs))) = false := by simp [allIn, kc]
            rw [e]; split
            · rfl
            · rw [if_pos (by omega)]
        · have e : (allIn 0 10000 (a :: ts) && (allIn 0 1000 (b :: gs) && allIn 0 4 (c :: rs))) = false := by simp [allIn, kb]
          rw [e]; split
          · rfl
          · rw [if_pos (by omega)]
      · have e : (allIn 0 10000 (a :: ts) && (allIn 0 1000 (b :: gs) && allIn 0 4 (c :: rs))) = false := by simp [allIn, ka]
        rw [e]; split
        · rfl
        · rw [if_pos (by omega)]
theorem impl_IsModel_ev (x y z : Int) (t g r : List Int) (ht : t.length ≤ 1048576) (hg : g.length ≤ 1048576) (hr : r.length ≤ 1048576) : Ev (fun k => impl_IsModel.f k x y z t g r) (modelOk x y z t g r) := by
  by_cases h : gridOk x y z = true
  · have no : ∀ n : Int, Ev (fun k => impl_IsModel.j0 k n true x y z t g r) false := fun n => Ev.next0 fun k => by simp [impl_IsModel.j0]
    by_cases e : (t.length : Int) = x * y * z ∧ (g.length : Int) = x * y * z ∧ (r.length : Int) = x * y * z
    · obtain ⟨e1, e2, e3⟩ := e
      have h1 : Ev (fun k => impl_IsModel.j0 k (x * y * z) false x y z t g r) (allIn 0 10000 t && (allIn 0 1000 g && allIn 0 4 r)) := by
        refine Ev.next1 (impl_IsModel_l0 x y z t g r t.length ht rfl (by omega) (by omega) t g r 0 rfl rfl rfl) fun k hk => ?_
        simp only [impl_IsModel.j0]
        rw [if_neg (by simp), ← e1]; exact hk
      refine Ev.of1 h1 fun k hk => ?_
      simp only [impl_IsModel.f, impl_IsGrid_eq, Option.bind_some, impl_blocksOf_eq x y z h]
      rw [if_pos h, if_pos e1, if_pos e2, show ((r.length : Int) != x * y * z) = false by simp [e3], hk]
      simp [modelOk, h, e1, e2, e3]
    · refine Ev.of1 (no (x * y * z)) fun k hk => ?_
      have em : modelOk x y z t g r = false := by
        simp only [modelOk, decide_eq_false e, Bool.and_false, Bool.false_and]
      simp only [impl_IsModel.f, impl_IsGrid_eq, Option.bind_some, impl_blocksOf_eq x y z h]
      rw [if_pos h, em]
      by_cases e1 : (t.length : Int) = x * y * z
      · rw [if_pos e1]
        by_cases e2 : (g.length : Int) = x * y * z
        · rw [if_pos e2, show ((r.length : Int) != x * y * z) = true by
            have e3 : ¬ (r.length : Int) = x * y * z := fun e3 => e ⟨e1, e2, e3⟩
            simpa using e3, hk]
        · rw [if_neg e2, hk]
      · rw [if_neg e1, hk]
  · refine Ev.all fun k => ?_
    simp only [impl_IsModel.f, impl_IsGrid_eq, Option.bind_some]
    rw [if_neg h]; simp [modelOk, h]
theorem impl_areTwins_ev (x y z : Int) (t g r : List Int) (x' y' z' : Int) (t' g' r' : List Int) (ht : t.length ≤ 1048576) (hg : g.length ≤ 1048576) (hr : r.length ≤ 1048576) (ht' : t'.length ≤ 1048576) (hg' : g'.length ≤ 1048576) (hr' : r'.length ≤ 1048576) : Ev (fun k => impl_areTwins.f k x y z t g r x' y' z' t' g' r') (modelOk x y z t g r && (modelOk x' y' z' t' g' r' && (x == x' && (y == y' && (z == z'))))) :=
  (ev_and (impl_IsModel_ev x y z t g r ht hg hr) <| ev_one (impl_IsModel_ev x' y' z' t' g' r' ht' hg' hr')).ev fun k ⟨h1, h2⟩ => by
    simp only [impl_areTwins.f, h1, h2, Option.bind_some]
    by_cases h : modelOk x y z t g r = true
    · rw [if_pos h, h]
      by_cases h' : modelOk x' y' z' t' g' r' = true
      · rw [if_pos h', h']; rfl
      · rw [if_neg h']; simp [h']
    · rw [if_neg h]; simp [h]
theorem impl_areBlocks_l0 (n : Int) (l : List Int) (hn : l.length ≤ 9223372036854775807) : ∀ (ys : List Int) (i : Nat) (p : Int), l.drop i = ys → (i = 0 ∧ p = -1 ∨ 0 < i ∧ l[i - 1]? = some p) → Ev (fun k => impl_areBlocks.l0 k l n l (l.length : Int) i) (rise n p ys)
  | [], i, p, h, hp => Ev.next0 fun k => by
      have h0 := drop_nil h
      simp only [impl_areBlocks.l0, rise]
      rw [if_neg (by omega)]
  | y :: ys, i, p, h, hp => by
      obtain ⟨h1, h2, h3⟩ := drop_cons h
      refine Ev.next1 (impl_areBlocks_l0 n l hn ys (i + 1) y h3 (.inr ⟨by omega, by simpa using h2⟩)) fun k hk => ?_
      have e := rd_drop h
      simp only [impl_areBlocks.l0, e, rise]
      rw [if_pos (by omega), if_pos (by omega), if_pos (by omega), wrap_succ h1 hn]
      by_cases hy : 0 ≤ y ∧ y < n
      · rw [if_neg (by omega), if_neg (by omega)]
        rcases hp with ⟨rfl, rfl⟩ | ⟨hi, hp⟩
        · rw [if_neg (by omega), hk]; simp; omega
        · have e2 : rd l ((i : Int) - 1) = p := by
            rw [show (i : Int) - 1 = ((i - 1 : Nat) : Int) by omega]; exact rd_get hp
          rw [if_pos (by omega), wrap_id (by omega) (by omega), if_pos (by omega), if_pos (by omega), e2]
          by_cases hq : p < y
          · rw [if_neg (by omega), hk]; simp [hy, hq]
          · rw [if_pos (by omega)]; simp [hq]
      · have e3 : (decide (0 ≤ y ∧ y < n ∧ p < y) && rise n y ys) = false := by simp; omega
        rw [e3]; split
        · rfl
        · rw [if_pos (by omega)]
theorem impl_areBlocks_ev (n : Int) (l : List Int) (hn : l.length ≤ 9223372036854775807) : Ev (fun k => impl_areBlocks.f k l n) (rise n (-1) l) :=
  Ev.of1 (impl_areBlocks_l0 n l hn l 0 (-1) rfl (.inl ⟨rfl, rfl⟩)) fun k hk => by simp only [impl_areBlocks.f]; exact hk
-- needs: spec_moSums
theorem impl_sumsOf_l0 (x y z : Int) (t g r : List Int) (ht : allIn 0 10000 t = true) (hg : allIn 0 1000 g = true) (I : List Int) (hI : I.length ≤ 1048576) (hin : ∀ q ∈ I, 0 ≤ q ∧ q < (t.length : Int) ∧ q < (g.length : Int)) : ∀ (qs : List Int) (j : Nat) (a m : Int), I.drop j = qs → (0 ≤ a ∧ a ≤ 10000 * (j : Int)) → (0 ≤ m ∧ m ≤ 10000000 * (j : Int)) →
    Ev (fun k => impl_sumsOf.l0 k a m I (I.length : Int) j x y z t g r) (a + selT t qs, m + selM t g qs)
  | [], j, a, m, hj, ha, hm => Ev.next0 fun k => by
      have h0 := drop_nil hj
      simp only [impl_sumsOf.l0, selT, selM, Int.add_zero]
      rw [if_neg (by omega)]
  | q :: qs, j, a, m, hj, ha, hm => by
      obtain ⟨h1, h2, h3⟩ := drop_cons hj
      have e := rd_drop hj
      have hq := hin q (List.mem_of_getElem? h2)
      have hb := metal_bd ht hg hq.1 hq.2.1 hq.2.2
      refine Ev.next1 (impl_sumsOf_l0 x y z t g r ht hg I hI hin qs (j + 1) (a + rd t q) (m + rd t q * rd g q) h3 (by omega) (by omega)) fun k hk => ?_
      simp only [impl_sumsOf.l0, e, Option.bind_some, selT, selM]
      rw [if_pos (by omega), if_pos (by omega), if_pos (by omega), if_pos hq.1, if_pos hq.2.1, if_pos hq.2.2, wrap_id (x := rd t q * rd g q) (by omega) (by omega), wrap_succ h1 (by omega), wrap_id (x := a + rd t q) (by omega) (by omega), wrap_id (x := m + rd t q * rd g q) (by omega) (by omega), ← Int.add_assoc, ← Int.add_assoc]
      exact hk
theorem impl_sumsOf_ev (x y z : Int) (t g r : List Int) (ht : allIn 0 10000 t = true) (hg : allIn 0 1000 g = true) (I : List Int) (hI : I.length ≤ 1048576) (hin : ∀ q ∈ I, 0 ≤ q ∧ q < (t.length : Int) ∧ q < (g.length : Int)) : Ev (fun k => impl_sumsOf.f k x y z t g r I) (selT t I, selM t g I) := by
  have h0 := impl_sumsOf_l0 x y z t g r ht hg I hI hin I 0 0 0 rfl (by omega) (by omega)
  rw [Int.zero_add, Int.zero_add] at h0
  exact Ev.of1 h0 fun k hk => by simp only [impl_sumsOf.f]; exact hk
theorem impl_abs_eq (a : Int) (h0 : -9223372036854775807 ≤ a) (h1 : a ≤ 9223372036854775807) : impl_abs.f a = some (max a (-a)) := by
  simp only [impl_abs.f, mx_eq]
  rw [wrap_id (by omega) (by omega)]
theorem impl_lowest_l0 (x y : Int) : ∀ (n b a : Nat), b ≤ n → 0 < a + b → Ev (fun k => impl_lowest.l0 k x y (a : Int) (b : Int)) (wrap64 (Int.tdiv x (Nat.gcd a b : Int)), wrap64 (Int.tdiv y (Nat.gcd a b : Int)))
  | n, 0, a, hn, h => Ev.next0 fun k => by
      simp only [impl_lowest.l0, Nat.gcd_zero_right]
      rw [if_pos (by omega), if_neg (by omega)]
  | 0, b + 1, a, hn, h => by omega
  | n + 1, b + 1, a, hn, h => by
      have hlt := Nat.mod_lt a (show 0 < b + 1 by omega)
      refine Ev.next1 (impl_lowest_l0 x y n (a % (b + 1)) (b + 1) (by omega) (by omega)) fun k hk => ?_
      have em : Int.tmod (a : Int) ((b + 1 : Nat) : Int) = ((a % (b + 1) : Nat) : Int) := by
        rw [Int.tmod_eq_emod_of_nonneg (by omega)]; exact (Int.natCast_emod a (b + 1)).symm
      have eg : Nat.gcd a (b + 1) = Nat.gcd (b + 1) (a % (b + 1)) := by
        rw [Nat.gcd_comm a (b + 1), Nat.gcd_rec (b + 1) a, Nat.gcd_comm]
      simp only [impl_lowest.l0]
      rw [if_neg (by omega), em]
      rw [eg]; exact hk
theorem impl_lowest_ev (a b : Int) (ha : 0 ≤ a) (hb : 0 < b) (ha' : a ≤ 4611686018427387904) (hb' : b ≤ 4611686018427387904) : Ev (fun k => impl_lowest.f k a b) (low a b) := by
  have hl := low_bd ha hb
  have h := impl_lowest_l0 a b b.natAbs b.natAbs a.natAbs (by omega) (by omega)
  rw [Int.tdiv_eq_ediv_of_nonneg ha, Int.tdiv_eq_ediv_of_nonneg (by omega)] at h
  have e : (wrap64 (a / (Nat.gcd a.natAbs b.natAbs : Int)), wrap64 (b / (Nat.gcd a.natAbs b.natAbs : Int))) = low a b := by
    rw [show a / (Nat.gcd a.natAbs b.natAbs : Int) = (low a b).1 from rfl, show b / (Nat.gcd a.natAbs b.natAbs : Int) = (low a b).2 from rfl, wrap_id (by omega) (by omega), wrap_id (by omega) (by omega)]
  rw [e] at h
  refine Ev.of1 h fun k hk => ?_
  simp only [impl_lowest.f, impl_abs_eq a (by omega) (by omega), Option.bind_some]
  rw [show ((a.natAbs : Nat) : Int) = max a (-a) by omega, show ((b.natAbs : Nat) : Int) = b by omega] at hk
  exact hk
-- needs: factor_of
theorem impl_FactorOf_ratio (a b : Int) (ha : 0 ≤ a) (hb : 0 ≤ b) (ha' : a ≤ 1500000000000000) (hb' : b ≤ 1500000000000000) : Ev (fun k => if b = 0 then (some (0, 0, false) : Option (Int × Int × Bool)) else (impl_lowest.f k a b).bind fun p => (some (p.1, p.2, true))) (ratio a b) := by
  by_cases h : b = 0
  · exact Ev.all fun k => by rw [if_pos h, ratio, if_pos h]
  · exact (ev_one (impl_lowest_ev a b ha (by omega) (by omega) (by omega))).ev fun k h1 => by
      rw [if_neg h, h1, ratio, if_neg h]; rfl
theorem impl_FactorOf_yes (x y z : Int) (t g r : List Int) (x' y' z' : Int) (t' g' r' : List Int) (ht : t.length ≤ 1048576) (hg : g.length ≤ 1048576) (hr : r.length ≤ 1048576) (ht' : t'.length ≤ 1048576) (hg' : g'.length ≤ 1048576) (hr' : r'.length ≤ 1048576) (s : List Int) (c : Int) (h : modelOk x y z t g r = true ∧ modelOk x' y' z' t' g' r' = true ∧ x = x' ∧ y = y' ∧ z = z') (hs : rise (x * y * z) (-1) s = true) (hc : 0 ≤ c ∧ c ≤ 2) : Ev (fun k => impl_FactorOf.j0 k s c false x y z t g r x' y' z' t' g' r') (factor c (selT t s) (selM t g s) (selT t' s) (selM t' g' s)) := by
  obtain ⟨f1, f2, f3, _⟩ := factor_facts h hs
  obtain ⟨_, _, v1, v2, _⟩ := model_ok h.1
  obtain ⟨_, _, u1, u2, _⟩ := model_ok h.2.1
  have s1 := impl_sumsOf_ev x y z t g r v1 v2 s (by omega) f2
  have s2 := impl_sumsOf_ev x' y' z' t' g' r' u1 u2 s (by omega) f3
  have q1 := sel_bd v1 v2 s f2
  have q2 := sel_bd u1 u2 s f3
  generalize selT t s = ta at s1 q1 ⊢
  generalize selM t g s = ma at s1 q1 ⊢
  generalize selT t' s = tb at s2 q2 ⊢
  generalize selM t' g' s = mb at s2 q2 ⊢
  have a0 : 0 ≤ ta := q1.1.1
  have a1 : ta ≤ 1200000 := by omega
  have b0 : 0 ≤ ma := q1.2.1
  have b1 : ma ≤ 1200000000 := by omega
  have c0 : 0 ≤ tb := q2.1.1
  have c1 : tb ≤ 1200000 := by omega
  have d0 : 0 ≤ mb := q2.2.1
  have d1 : mb ≤ 1200000000 := by omega
  clear q1 q2
  rcases (by omega : c = 0 ∨ c = 1 ∨ c = 2) with e | e | e
  · refine (ev_and s1 <| ev_and s2 <| ev_one (impl_FactorOf_ratio tb ta c0 a0 (by omega) (by omega))).next fun k ⟨h1, h2, h3⟩ => ?_
    simp only [impl_FactorOf.j0, h1, h2, Option.bind_some]
    have hf : factor c ta ma tb mb = ratio tb ta := by rw [factor, if_pos e]
    rw [if_neg (by simp), if_pos e, hf]; exact h3
  · refine (ev_and s1 <| ev_and s2 <| ev_one (impl_FactorOf_ratio mb ma d0 b0 (by omega) (by omega))).next fun k ⟨h1, h2, h3⟩ => ?_
    simp only [impl_FactorOf.j0, h1, h2, Option.bind_some]
    have hf : factor c ta ma tb mb = ratio mb ma := by rw [factor, if_neg (by omega), if_pos e]
    rw [if_neg (by simp), if_neg (by omega), if_pos e, hf]; exact h3
  · have p1 := prod_bd d0 d1 a0 a1
    have p2 := prod_bd c0 c1 b0 b1
    refine (ev_and s1 <| ev_and s2 <| ev_one (impl_FactorOf_ratio (mb * ta) (tb * ma) p1.1 p2.1 (by omega) (by omega))).next fun k ⟨h1, h2, h3⟩ => ?_
    simp only [impl_FactorOf.j0, h1, h2, Option.bind_some]
    have hf : factor c ta ma tb mb = if ta = 0 then (0, 0, false) else ratio (mb * ta) (tb * ma) := by rw [factor, if_neg (by omega), if_neg (by omega)]
    rw [if_neg (by simp), if_neg (by omega), if_neg (by omega), hf]
    by_cases ha : ta = 0
    · rw [if_pos ha, if_pos ha]
    · rw [if_neg ha, if_neg ha, wrap_id (x := tb * ma) (by omega) (by omega), wrap_id (x := mb * ta) (by omega) (by omega)]; exact h3
theorem impl_FactorOf_no (x y z : Int) (t g r : List Int) (x' y' z' : Int) (t' g' r' : List Int) (s : List Int) (c : Int) : Ev (fun k => impl_FactorOf.j0 k s c true x y z t g r x' y' z' t' g' r') (0, 0, false) := Ev.next0 fun k => by simp [impl_FactorOf.j0]
theorem impl_FactorOf_ev (x y z : Int) (t g r : List Int) (x' y' z' : Int) (t' g' r' : List Int) (ht : t.length ≤ 1048576) (hg : g.length ≤ 1048576) (hr : r.length ≤ 1048576) (ht' : t'.length ≤ 1048576) (hg' : g'.length ≤ 1048576) (hr' : r'.length ≤ 1048576) (s : List Int) (hs : s.length ≤ 1048576) (c : Int) : Ev (fun k => impl_FactorOf.f k x y z t g r x' y' z' t' g' r' s c) (factorOf x y z t g r x' y' z' t' g' r' s c) := by
  have h0 := impl_areTwins_ev x y z t g r x' y' z' t' g' r' ht hg hr ht' hg' hr'
  have hl := impl_areBlocks_ev (t.length : Int) s (by omega)
  have hn := impl_FactorOf_no x y z t g r x' y' z' t' g' r' s c
  by_cases h : modelOk x y z t g r = true ∧ modelOk x' y' z' t' g' r' = true ∧ x = x' ∧ y = y' ∧ z = z'
  · have et : (modelOk x y z t g r && (modelOk x' y' z' t' g' r' && (x == x' && (y == y' && (z == z'))))) = true := by simp only [h.1, h.2.1, Bool.true_and]; simp [h.2.2]
    have hL : (t.length : Int) = x * y * z := (model_ok h.1).2.1.1
    rw [hL] at hl
    by_cases hr1 : rise (x * y * z) (-1) s = true
    · by_cases hc : 0 ≤ c ∧ c ≤ 2
      · refine (ev_and h0 <| ev_and hl <| ev_one (impl_FactorOf_yes x y z t g r x' y' z' t' g' r' ht hg hr ht' hg' hr' s c h hr1 hc)).ev fun k ⟨k1, k2, k3⟩ => ?_
        simp only [impl_FactorOf.f, k1, hL, k2, Option.bind_some]
        have ef : factorOf x y z t g r x' y' z' t' g' r' s c = factor c (selT t s) (selM t g s) (selT t' s) (selM t' g' s) := by rw [factorOf, if_pos ⟨h, hr1, hc⟩]
        rw [if_pos et, if_pos hr1, ef]
        rw [if_neg (by omega), show decide (c > 2) = false by simp; omega]; exact k3
      · refine (ev_and h0 <| ev_and hl <| ev_one hn).ev fun k ⟨k1, k2, k3⟩ => ?_
        simp only [impl_FactorOf.f, k1, hL, k2, Option.bind_some]
        have ef : factorOf x y z t g r x' y' z' t' g' r' s c = (0, 0, false) := by rw [factorOf, if_neg (fun q => hc q.2.2)]
        rw [if_pos et, if_pos hr1, ef]
        by_cases h5 : c < 0
        · rw [if_pos h5]; exact k3
        · rw [if_neg h5, show decide (c > 2) = true by simp; omega]; exact k3
    · refine (ev_and h0 <| ev_and hl <| ev_one hn).ev fun k ⟨k1, k2, k3⟩ => ?_
      simp only [impl_FactorOf.f, k1, hL, k2, Option.bind_some]
      have ef : factorOf x y z t g r x' y' z' t' g' r' s c = (0, 0, false) := by rw [factorOf, if_neg (fun q => hr1 q.2.1)]
      rw [if_pos et, if_neg hr1, ef]; exact k3
  · refine (ev_and h0 <| ev_one hn).ev fun k ⟨k1, k3⟩ => ?_
    simp only [impl_FactorOf.f, k1, Option.bind_some]
    rw [if_neg (by simpa using h), factorOf, if_neg (fun q => h q.1)]; exact k3
theorem j2_ev (s : List Int) (hs : s.length ≤ 1048576) : Ev (fun k => laws_FnExactFactorOf.j2 k s s) true :=
  (ev_and (laws_toIntS_ev s (by omega)) <| ev_one (laws_eqIntS_ev s (by omega))).next fun k ⟨h1, h2⟩ => by
    simp only [laws_FnExactFactorOf.j2, h1, h2, Option.bind_some]
    rw [if_pos (by simp)]
theorem j1_ev (x y z : Int) (t g r : List Int) (x' y' z' : Int) (t' g' r' : List Int) (ht : t.length ≤ 1048576) (hg : g.length ≤ 1048576) (hr : r.length ≤ 1048576) (ht' : t'.length ≤ 1048576) (hg' : g'.length ≤ 1048576) (hr' : r'.length ≤ 1048576) (s : List Int) (hs : s.length ≤ 1048576) : Ev (fun k => laws_FnExactFactorOf.j1 k s s x' y' z' t' g' r' x' y' z' t' g' r') true :=
  (ev_and (laws_toModel_ev x' y' z' t' g' r' ht' hg' hr') <| ev_and (laws_eqModel_ev x' y' z' t' g' r' ht' hg' hr') <| ev_one (j2_ev s hs)).next fun k ⟨h1, h2, h3⟩ => by
    simp only [laws_FnExactFactorOf.j1, h1, h2, Option.bind_some]
    rw [if_pos (by simp)]; exact h3
theorem j0_ev (x y z : Int) (t g r : List Int) (x' y' z' : Int) (t' g' r' : List Int) (ht : t.length ≤ 1048576) (hg : g.length ≤ 1048576) (hr : r.length ≤ 1048576) (ht' : t'.length ≤ 1048576) (hg' : g'.length ≤ 1048576) (hr' : r'.length ≤ 1048576) (s : List Int) (hs : s.length ≤ 1048576) : Ev (fun k => laws_FnExactFactorOf.j0 k s s false x y z t g r x' y' z' t' g' r' x y z t g r x' y' z' t' g' r') true :=
  (ev_and (laws_toModel_ev x y z t g r ht hg hr) <| ev_and (laws_eqModel_ev x y z t g r ht hg hr) <| ev_one (j1_ev x y z t g r x' y' z' t' g' r' ht hg hr ht' hg' hr' s hs)).next fun k ⟨h1, h2, h3⟩ => by
    simp only [laws_FnExactFactorOf.j0, h1, h2, Option.bind_some]
    rw [if_neg (by simp), if_pos (by simp)]; exact h3
theorem FnExactFactorOf : Stat.FnExactFactorOf := by
  intro x y z t g r x' y' z' t' g' r' s c _ _ _ ht hg hr _ _ _ ht' hg' hr' _ _
  refine Ev.rounds ?_
  by_cases hz : (s.length : Int) > 1048576
  · exact Ev.all fun k => by simp only [laws_FnExactFactorOf.f]; rw [if_pos hz]
  have hs := laws_szModel_eq x y z t g r 1048576 (by omega) (by omega) ht.1 hg.1 hr.1
  by_cases hq : (1048576 : Int) < ((t.length + g.length + r.length : Nat) : Int)
  · refine Ev.all fun k => ?_
    simp only [laws_FnExactFactorOf.f, hs, Option.bind_some]
    rw [if_neg hz, left_lt hq, if_pos (by omega)]
  have hl : left 1048576 (t.length + g.length + r.length) = 1048576 - ((t.length + g.length + r.length : Nat) : Int) := left_ge (by omega)
  have hs' := laws_szModel_eq x' y' z' t' g' r' (1048576 - ((t.length + g.length + r.length : Nat) : Int)) (by omega) (by omega) ht'.1 hg'.1 hr'.1
  by_cases hp : 1048576 - ((t.length + g.length + r.length : Nat) : Int) < ((t'.length + g'.length + r'.length : Nat) : Int)
  · refine Ev.all fun k => ?_
    simp only [laws_FnExactFactorOf.f, hs, Option.bind_some]
    rw [if_neg hz, hl, if_neg (by omega), hs', Option.bind_some, left_lt hp, if_pos (by omega)]
  have h1 : t.length ≤ 1048576 := by omega
  have h2 : g.length ≤ 1048576 := by omega
  have h3 : r.length ≤ 1048576 := by omega
  have h4 : t'.length ≤ 1048576 := by omega
  have h5 : g'.length ≤ 1048576 := by omega
  have h6 : r'.length ≤ 1048576 := by omega
  have h7 : s.length ≤ 1048576 := by omega
  refine (ev_and (laws_toModel_ev x y z t g r h1 h2 h3) <| ev_and (laws_toModel_ev x' y' z' t' g' r' h4 h5 h6) <| ev_and (laws_toIntS_ev s (by omega)) <| ev_and (spec_FactorOf_ev x y z t g r x' y' z' t' g' r' h1 h2 h3 h4 h5 h6 s h7 c) <| ev_and (impl_FactorOf_ev x y z t g r x' y' z' t' g' r' h1 h2 h3 h4 h5 h6 s h7 c) <|
    ev_one (j0_ev x y z t g r x' y' z' t' g' r' h1 h2 h3 h4 h5 h6 s h7)).ev fun k ⟨a1, a2, a3, a4, a5, a6⟩ => ?_
  simp only [laws_FnExactFactorOf.f, hs, Option.bind_some]
  rw [if_neg hz, hl, if_neg (by omega), hs', Option.bind_some, left_ge (by omega), if_neg (by omega)]
  simp only [a1, a2, a3, a4, a5, Option.bind_some]
  rw [if_pos (by simp), if_pos (by simp), bne_self_eq_false]; exact a6
end Go.Proofs.Ytagnldmaglbpaaa.PureFnExactFactorOf
namespace Go.Proofs.Ytagnldmaglbpaaa.Pure
theorem FnExactFactorOf : Stat.FnExactFactorOf := PureFnExactFactorOf.FnExactFactorOf
end Go.Proofs.Ytagnldmaglbpaaa.Pure
