/- The law FnExactDestinationOf over numbers and lists: it is true of every input. -/
import Derived.Test.YtagnldmaglbpaaaStatFnExactDestinationOf
import Derived.Test.YtagnldmaglbpaaaWMore
set_option linter.unusedVariables false
set_option linter.unusedSimpArgs false
namespace Go.Proofs.Ytagnldmaglbpaaa.Kit
open Go.RowKit Go.Proofs.YtagnldmaglbpaaaW.PrintWords Go.Proofs.YtagnldmaglbpaaaW.PrintMore

/-! ### Rounds -/
theorem Ev.all {α : Type} {g : Nat → Option α} {r : α} (h : ∀ k, g k = some r) : Ev g r := ⟨0, fun k _ => h k⟩
theorem Ev.of1 {α β : Type} {g : Nat → Option α} {f : Nat → Option β} {r : α} {b : β} (h : Ev f b) (k : ∀ k, f k = some b → g k = some r) : Ev g r := by
  obtain ⟨K, h⟩ := h; exact ⟨K, fun n hn => k n (h n hn)⟩
theorem Ev.next0 {α : Type} {g : Nat → Option α} {r : α} (h : ∀ k, g (k + 1) = some r) : Ev g r :=
  ⟨1, fun n hn => by obtain ⟨m, rfl⟩ : ∃ m, n = m + 1 := ⟨n - 1, by omega⟩; exact h m⟩
theorem Ev.next1 {α β : Type} {g : Nat → Option α} {f : Nat → Option β} {r : α} {b : β} (h : Ev f b) (k : ∀ k, f k = some b → g (k + 1) = some r) : Ev g r := by
  obtain ⟨K, h⟩ := h
  exact ⟨K + 1, fun n hn => by obtain ⟨m, rfl⟩ : ∃ m, n = m + 1 := ⟨n - 1, by omega⟩; exact k m (h m (by omega))⟩
theorem Ev.next2 {α β γ : Type} {g : Nat → Option α} {f : Nat → Option β} {f' : Nat → Option γ} {r : α} {b : β} {c : γ} (h : Ev f b) (h' : Ev f' c) (k : ∀ k, f k = some b → f' k = some c → g (k + 1) = some r) : Ev g r := by
  obtain ⟨K, h⟩ := h; obtain ⟨K', h'⟩ := h'
  exact ⟨K + K' + 1, fun n hn => by obtain ⟨m, rfl⟩ : ∃ m, n = m + 1 := ⟨n - 1, by omega⟩; exact k m (h m (by omega)) (h' m (by omega))⟩
/-- From some number of rounds on. -/
def Evt (p : Nat → Prop) : Prop := ∃ K, ∀ k, K ≤ k → p k
theorem ev_one {α : Type} {f : Nat → Option α} {a : α} (h : Ev f a) : Evt (fun k => f k = some a) := h
theorem ev_and {α : Type} {f : Nat → Option α} {a : α} {p : Nat → Prop} (h : Ev f a) (h' : Evt p) : Evt (fun k => f k = some a ∧ p k) := by
  obtain ⟨K, h⟩ := h; obtain ⟨K', h'⟩ := h'; exact ⟨K + K', fun n hn => ⟨h n (by omega), h' n (by omega)⟩⟩
theorem Evt.ev {α : Type} {g : Nat → Option α} {r : α} {p : Nat → Prop} (h : Evt p) (k : ∀ k, p k → g k = some r) : Ev g r := by
  obtain ⟨K, h⟩ := h; exact ⟨K, fun n hn => k n (h n hn)⟩
theorem Evt.next {α : Type} {g : Nat → Option α} {r : α} {p : Nat → Prop} (h : Evt p) (k : ∀ k, p k → g (k + 1) = some r) : Ev g r := by
  obtain ⟨K, h⟩ := h
  exact ⟨K + 1, fun n hn => by obtain ⟨m, rfl⟩ : ∃ m, n = m + 1 := ⟨n - 1, by omega⟩; exact k m (h m (by omega))⟩

/-! ### Whole numbers -/
theorem wrap_id {x : Int} (h0 : -9223372036854775808 ≤ x) (h1 : x ≤ 9223372036854775807) : wrap64 x = x := by unfold wrap64; omega
theorem wrap_succ {i n : Nat} (h : i < n) (hn : n ≤ 9223372036854775807) : wrap64 ((i : Int) + 1) = ((i + 1 : Nat) : Int) := by unfold wrap64; omega
theorem toNat_cast (i : Nat) : ((i : Int)).toNat = i := by omega

/-! ### Lists from an index on -/
theorem drop_cons {α : Type} {xs ys : List α} {y : α} {i : Nat} (h : xs.drop i = y :: ys) : i < xs.length ∧ xs[i]? = some y ∧ xs.drop (i + 1) = ys := by
  have hlt : i < xs.length := by
    by_cases hlt : i < xs.length
    · exact hlt
    · rw [List.drop_of_length_le (by omega)] at h; cases h
  rw [List.drop_eq_getElem_cons hlt] at h
  injection h with h1 h2
  exact ⟨hlt, by rw [List.getElem?_eq_getElem hlt, h1], h2⟩
theorem drop_nil {α : Type} {xs : List α} {i : Nat} (h : xs.drop i = []) : xs.length ≤ i := by simpa using h
theorem getD_drop {α : Type} {xs ys : List α} {y d : α} {i : Nat} (h : xs.drop i = y :: ys) : xs.getD ((i : Int)).toNat d = y := by
  rw [toNat_cast, List.getD_eq_getElem?_getD, (drop_cons h).2.1]; rfl
theorem rd_drop {xs ys : List Int} {y : Int} {i : Nat} (h : xs.drop i = y :: ys) : rd xs (i : Int) = y := getD_drop h
theorem getD_get {α : Type} {xs : List α} {y d : α} {i : Nat} (h : xs[i]? = some y) : xs.getD ((i : Int)).toNat d = y := by
  rw [toNat_cast, List.getD_eq_getElem?_getD, h]; rfl
theorem rd_get {xs : List Int} {y : Int} {i : Nat} (h : xs[i]? = some y) : rd xs (i : Int) = y := getD_get h
/-- What is left of a, n taken off; -1 if it isn't enough. -/
def left (a : Int) (n : Nat) : Int := if a < (n : Int) then -1 else a - (n : Int)
theorem left_lt {a : Int} {n : Nat} (h : a < (n : Int)) : left a n = -1 := if_pos h
theorem left_ge {a : Int} {n : Nat} (h : (n : Int) ≤ a) : left a n = a - (n : Int) := if_neg (by omega)
/-- How many values rows hold, the rows counted too. -/
def tot : List (List Int) → Nat
  | [] => 0
  | y :: ys => 1 + y.length + tot ys
def sumLen : List (List Int) → Nat
  | [] => 0
  | y :: ys => y.length + sumLen ys
theorem tot_eq : ∀ ls : List (List Int), tot ls = ls.length + sumLen ls
  | [] => rfl
  | y :: ys => by simp only [tot, sumLen, List.length_cons, tot_eq ys]; omega
theorem sumLen_mem : ∀ {ls : List (List Int)} {y : List Int}, y ∈ ls → y.length ≤ sumLen ls
  | z :: zs, y, h => by
    rcases List.mem_cons.1 h with rfl | h
    · simp only [sumLen]; omega
    · have := sumLen_mem h; simp only [sumLen]; omega

/-! ### A list that is copied, element for element -/
theorem copy_step {α : Type} {m x : List α} {y : α} {i : Nat} (hm : m[i]? = some y) (hl : x.length = m.length) (ht : x.take i = m.take i) : (x.set i y).length = m.length ∧ (x.set i y).take (i + 1) = m.take (i + 1) := by
  obtain ⟨hi, rfl⟩ := List.getElem?_eq_some_iff.1 hm
  refine ⟨by simpa using hl, ?_⟩
  apply List.ext_getElem?
  intro j
  have hj : (x.take i)[j]? = (m.take i)[j]? := by rw [ht]
  rw [List.getElem?_take, List.getElem?_take] at *
  by_cases h1 : j < i + 1
  · rw [if_pos h1, if_pos h1]
    by_cases h2 : j = i
    · subst h2
      rw [List.getElem?_set_self (by omega), List.getElem?_eq_getElem hi]
    · rw [List.getElem?_set_ne (by omega)]
      rw [if_pos (by omega), if_pos (by omega)] at hj
      exact hj
  · rw [if_neg h1, if_neg h1]
theorem copy_end {α : Type} {m x : List α} {i : Nat} (hl : x.length = m.length) (ht : x.take i = m.take i) (hi : m.length ≤ i) : x = m := by
  rw [List.take_of_length_le (by omega), List.take_of_length_le hi] at ht; exact ht

/-! ### Strictly increasing lists of 0..n-1 -/
def rise (n : Int) : Int → List Int → Bool
  | _, [] => true
  | p, y :: ys => decide (0 ≤ y ∧ y < n ∧ p < y) && rise n y ys
/-! ### Numbers marked and held -/
end Go.Proofs.Ytagnldmaglbpaaa.Kit
namespace Go.Proofs.Ytagnldmaglbpaaa.Model
open Go.RowKit Go.Proofs.YtagnldmaglbpaaaW.PrintWords Go.Proofs.Ytagnldmaglbpaaa.Kit

/-- Numbers within bounds, all of them. -/
def allIn (lo hi : Int) : List Int → Bool
  | [] => true
  | y :: ys => decide (lo ≤ y ∧ y ≤ hi) && allIn lo hi ys
def gridOk (x y z : Int) : Bool := decide (1 ≤ x ∧ x ≤ 8 ∧ 1 ≤ y ∧ y ≤ 6 ∧ 1 ≤ z ∧ z ≤ 5 ∧ x * y * z ≤ 120)
theorem grid_prod {x y z : Int} (hx : 1 ≤ x ∧ x ≤ 8) (hy : 1 ≤ y ∧ y ≤ 6) (hz : 1 ≤ z ∧ z ≤ 5) : 1 ≤ x * y ∧ x * y ≤ 48 ∧ 1 ≤ x * y * z ∧ x * y * z ≤ 240 := by
  rcases (by omega : x = 1 ∨ x = 2 ∨ x = 3 ∨ x = 4 ∨ x = 5 ∨ x = 6 ∨ x = 7 ∨ x = 8) with rfl | rfl | rfl | rfl | rfl | rfl | rfl | rfl <;>
    rcases (by omega : z = 1 ∨ z = 2 ∨ z = 3 ∨ z = 4 ∨ z = 5) with rfl | rfl | rfl | rfl | rfl <;> omega
theorem grid_ok {x y z : Int} (h : gridOk x y z = true) : (1 ≤ x ∧ x ≤ 8) ∧ (1 ≤ y ∧ y ≤ 6) ∧ (1 ≤ z ∧ z ≤ 5) ∧ 1 ≤ x * y ∧ x * y ≤ 48 ∧ 1 ≤ x * y * z ∧ x * y * z ≤ 120 := by
  simp only [gridOk, decide_eq_true_eq] at h
  have := grid_prod (x := x) (y := y) (z := z) (by omega) (by omega) (by omega)
  omega
theorem grid_wrap {x y z : Int} (hx : 1 ≤ x ∧ x ≤ 8) (hy : 1 ≤ y ∧ y ≤ 6) (hz : 1 ≤ z ∧ z ≤ 5) : wrap64 (wrap64 (x * y) * z) = x * y * z := by
  have := grid_prod hx hy hz
  rw [wrap_id (x := x * y) (by omega) (by omega), wrap_id (by omega) (by omega)]
def modelOk (x y z : Int) (t g r : List Int) : Bool := gridOk x y z && decide ((t.length : Int) = x * y * z ∧ (g.length : Int) = x * y * z ∧ (r.length : Int) = x * y * z) && (allIn 0 10000 t && (allIn 0 1000 g && allIn 0 4 r))
end Go.Proofs.Ytagnldmaglbpaaa.Model
namespace Go.Proofs.Ytagnldmaglbpaaa.PureFnExactDestinationOf
open Go.RowKit Go.Proofs.Ytagnldmaglbpaaa.PFnExactDestinationOf Go.Proofs.YtagnldmaglbpaaaW.PrintWords Go.Proofs.YtagnldmaglbpaaaW.PrintLast Go.Proofs.YtagnldmaglbpaaaW.PrintMore Go.Proofs.Ytagnldmaglbpaaa.Kit Go.Proofs.Ytagnldmaglbpaaa.Model
theorem laws_szIntS_eq (l : List Int) (a : Int) (h0 : 0 ≤ a) (ha : a ≤ 1048576) (hn : l.length ≤ 9223372036854775807) : laws_szIntS.f l a = some (if a < l.length then -1 else a - l.length) := by
  simp only [laws_szIntS.f]
  rw [wrap_id (by omega) (by omega)]
  split
  · rw [if_pos (by omega)]
  · rw [if_neg (by omega)]
theorem laws_szModel_eq (x y z : Int) (t g r : List Int) (a : Int) (h0 : 0 ≤ a) (ha : a ≤ 1048576) (ht : t.length ≤ 9223372036854775807) (hg : g.length ≤ 9223372036854775807) (hr : r.length ≤ 9223372036854775807) : laws_szModel.f x y z t g r a = some (left a (t.length + g.length + r.length)) := by
  simp only [laws_szModel.f, laws_szIntS_eq t a h0 ha ht, Option.bind_some]
  by_cases h1 : a < (t.length : Int)
  · rw [if_pos h1, if_pos (by omega), left_lt (by omega)]
  · rw [if_neg h1, if_neg (by omega), laws_szIntS_eq g _ (by omega) (by omega) hg, Option.bind_some]
    by_cases h2 : a - (t.length : Int) < (g.length : Int)
    · rw [if_pos h2, if_pos (by omega), left_lt (by omega)]
    · rw [if_neg h2, if_neg (by omega), laws_szIntS_eq r _ (by omega) (by omega) hr, Option.bind_some]
      by_cases h3 : a - (t.length : Int) - (g.length : Int) < (r.length : Int)
      · rw [if_pos h3, if_pos (by omega), left_lt (by omega)]
      · rw [if_neg h3, if_neg (by omega), left_ge (by omega)]; congr 1; omega
theorem laws_szIntSS_l0 (l : List (List Int)) (hn : l.length ≤ 9223372036854775807) (hl : ∀ y ∈ l, y.length ≤ 9223372036854775807) : ∀ (ys : List (List Int)) (i : Nat) (a : Int), l.drop i = ys → 0 ≤ a → a ≤ 1048576 → Ev (fun k => laws_szIntSS.l0 k l a i) (left a (sumLen ys))
  | [], i, a, h, h0, ha => Ev.next0 fun k => by
      have := drop_nil h
      simp only [laws_szIntSS.l0]
      rw [if_neg (by omega), left_ge (by show ((0 : Nat) : Int) ≤ a; omega)]
      congr 1; show a = a - ((0 : Nat) : Int); omega
  | y :: ys, i, a, h, h0, ha => by
      obtain ⟨h1, h2, h3⟩ := drop_cons h
      have e : rd_L1 l i = y := getD_drop h
      have e2 := laws_szIntS_eq y a h0 ha (hl y (List.mem_of_getElem? h2))
      have hs : sumLen (y :: ys) = y.length + sumLen ys := rfl
      by_cases hy : a < (y.length : Int)
      · refine Ev.next0 fun k => ?_
        simp only [laws_szIntSS.l0, e, e2, Option.bind_some]
        rw [if_pos (by omega), if_pos (by omega), if_pos hy, if_pos (by omega), left_lt (by omega)]
      · refine Ev.next1 (laws_szIntSS_l0 l hn hl ys (i + 1) (a - y.length) h3 (by omega) (by omega)) fun k hk => ?_
        simp only [laws_szIntSS.l0, e, e2, Option.bind_some]
        rw [if_pos (by omega), if_pos (by omega), if_neg hy, if_neg (by omega), wrap_succ h1 hn, hk]
        congr 1
        by_cases hq : a - (y.length : Int) < (sumLen ys : Int)
        · rw [left_lt hq, left_lt (by omega)]
        · rw [left_ge (by omega), left_ge (by omega)]; omega
theorem laws_szIntSS_ev (l : List (List Int)) (a : Int) (hn : l.length ≤ 9223372036854775807) (hl : ∀ y ∈ l, y.length ≤ 9223372036854775807) (h0 : 0 ≤ a) (ha : a ≤ 1048576) : Ev (fun k => laws_szIntSS.f k l a) (left a (tot l)) := by
  have ht := tot_eq l
  by_cases h : a < (l.length : Int)
  · refine Ev.all fun k => ?_
    simp only [laws_szIntSS.f]
    rw [wrap_id (by omega) (by omega), if_pos (by omega), left_lt (by omega)]
  · refine Ev.of1 (laws_szIntSS_l0 l hn hl l 0 (a - l.length) rfl (by omega) (by omega)) fun k hk => ?_
    simp only [laws_szIntSS.f]
    rw [wrap_id (by omega) (by omega), if_neg (by omega)]
    refine hk.trans ?_
    congr 1
    by_cases hq : a < (tot l : Int)
    · rw [left_lt (by omega), left_lt hq]
    · rw [left_ge (by omega), left_ge (by omega)]; omega
theorem laws_szJob_ev (m : List (List Int)) (t v : List Int) (a b c d e : Int) (n : Int) (hm : m.length ≤ 9223372036854775807) (hl : ∀ y ∈ m, y.length ≤ 9223372036854775807) (ht : t.length ≤ 9223372036854775807) (hv : v.length ≤ 9223372036854775807) (h0 : 0 ≤ n) (hn : n ≤ 1048576) : Ev (fun k => laws_szJob.f k m t v a b c d e n) (left n (tot m + t.length + v.length)) := by
  refine Ev.of1 (laws_szIntSS_ev m n hm hl h0 hn) fun k hk => ?_
  simp only [laws_szJob.f, hk, Option.bind_some]
  by_cases h1 : n < (tot m : Int)
  · rw [left_lt h1, if_pos (by omega), left_lt (by omega)]
  · rw [left_ge (by omega), if_neg (by omega), laws_szIntS_eq t _ (by omega) (by omega) ht, Option.bind_some]
    by_cases h2 : n - (tot m : Int) < (t.length : Int)
    · rw [if_pos h2, if_pos (by omega), left_lt (by omega)]
    · rw [if_neg h2, if_neg (by omega), laws_szIntS_eq v _ (by omega) (by omega) hv, Option.bind_some]
      by_cases h3 : n - (tot m : Int) - (t.length : Int) < (v.length : Int)
      · rw [if_pos h3, if_pos (by omega), left_lt (by omega)]
      · rw [if_neg h3, if_neg (by omega), left_ge (by omega)]; congr 1; omega
theorem laws_toIntS_l0 (l : List Int) (hn : l.length ≤ 9223372036854775807) : ∀ (ys : List Int) (i : Nat) (x : List Int), l.drop i = ys → x.length = l.length → x.take i = l.take i → Ev (fun k => laws_toIntS.l0 k l x i) l
  | [], i, x, h, hl, ht => Ev.next0 fun k => by
      have h0 := drop_nil h
      have h1 : l.length = l.length := by simp
      simp only [laws_toIntS.l0]
      rw [if_neg (by omega), copy_end hl ht (by omega)]
  | y :: ys, i, x, h, hl, ht => by
      obtain ⟨h1, h2, h3⟩ := drop_cons h
      have hm : l.length = l.length := by simp
      have hg : l[i]? = some y := by simp [h2]
      obtain ⟨c1, c2⟩ := copy_step hg hl ht
      refine Ev.next1 (laws_toIntS_l0 l hn ys (i + 1) (x.set i y) h3 c1 c2) fun k hk => ?_
      have e := rd_drop h
      simp only [laws_toIntS.l0, e, Option.bind_some]
      rw [if_pos (by omega), if_pos (by omega), if_pos (by omega), wrap_succ h1 hn, toNat_cast]
      exact hk
theorem laws_toIntS_ev (l : List Int) (hn : l.length ≤ 35184372088832) : Ev (fun k => laws_toIntS.f k l) l :=
  Ev.of1 (laws_toIntS_l0 l (by omega) l 0 (List.replicate ((l.length : Int)).toNat 0) rfl (by simp) rfl) fun k hk => by
    simp only [laws_toIntS.f]
    rw [if_pos (by omega), if_pos (by omega)]
    exact hk
theorem laws_toModel_ev (x y z : Int) (t g r : List Int) (ht : t.length ≤ 1048576) (hg : g.length ≤ 1048576) (hr : r.length ≤ 1048576) : Ev (fun k => laws_toModel.f k x y z t g r) (x, y, z, t, g, r) :=
  (ev_and (laws_toIntS_ev t (by omega)) <| ev_and (laws_toIntS_ev g (by omega)) <| ev_one (laws_toIntS_ev r (by omega))).ev fun k ⟨h1, h2, h3⟩ => by
    simp only [laws_toModel.f, laws_toGrid.f, h1, h2, h3, Option.bind_some]
theorem laws_toIntSS_l0 (l : List (List Int)) (hn : l.length ≤ 1048576) (hl : ∀ y ∈ l, y.length ≤ 1048576) : ∀ (ys : List (List Int)) (i : Nat) (x : List (List Int)), l.drop i = ys → x.length = l.length → x.take i = l.take i → Ev (fun k => laws_toIntSS.l0 k l x i) l
  | [], i, x, h, hl', ht => Ev.next0 fun k => by
      have h0 := drop_nil h
      simp only [laws_toIntSS.l0]
      rw [if_neg (by omega), copy_end hl' ht (by omega)]
  | y :: ys, i, x, h, hl', ht => by
      obtain ⟨h1, h2, h3⟩ := drop_cons h
      obtain ⟨c1, c2⟩ := copy_step h2 hl' ht
      have hy := hl y (List.mem_of_getElem? h2)
      refine Ev.next2 (laws_toIntSS_l0 l hn hl ys (i + 1) (x.set i y) h3 c1 c2) (laws_toIntS_ev y (by omega)) fun k hk hk2 => ?_
      have e : rd_L1 l i = y := getD_drop h
      simp only [laws_toIntSS.l0, e, hk2, Option.bind_some]
      rw [if_pos (by omega), if_pos (by omega), if_pos (by omega), wrap_succ h1 (by omega), toNat_cast]
      exact hk
theorem laws_toIntSS_ev (l : List (List Int)) (hn : l.length ≤ 1048576) (hl : ∀ y ∈ l, y.length ≤ 1048576) : Ev (fun k => laws_toIntSS.f k l) l :=
  Ev.of1 (laws_toIntSS_l0 l hn hl l 0 (List.replicate ((l.length : Int)).toNat []) rfl (by simp) rfl) fun k hk => by
    simp only [laws_toIntSS.f]
    rw [if_pos (by omega), if_pos (by omega)]
    exact hk
theorem laws_toJob_ev (m : List (List Int)) (t v : List Int) (a b c d e : Int) (hm : m.length ≤ 1048576) (hl : ∀ y ∈ m, y.length ≤ 1048576) (ht : t.length ≤ 1048576) (hv : v.length ≤ 1048576) : Ev (fun k => laws_toJob.f k m t v a b c d e) (m, t, v, a, b, c, d, e) :=
  (ev_and (laws_toIntSS_ev m hm hl) <| ev_and (laws_toIntS_ev t (by omega)) <| ev_one (laws_toIntS_ev v (by omega))).ev fun k ⟨h1, h2, h3⟩ => by
    simp only [laws_toJob.f, laws_toLimits.f, h1, h2, h3, Option.bind_some]
theorem laws_eqIntS_l0 (l : List Int) (hn : l.length ≤ 9223372036854775807) : ∀ (ys : List Int) (i : Nat), l.drop i = ys → Ev (fun k => laws_eqIntS.l0 k l l i) true
  | [], i, h => Ev.next0 fun k => by
      have h0 := drop_nil h
      simp only [laws_eqIntS.l0]
      rw [if_neg (by omega)]
  | y :: ys, i, h => by
      obtain ⟨h1, h2, h3⟩ := drop_cons h
      refine Ev.next1 (laws_eqIntS_l0 l hn ys (i + 1) h3) fun k hk => ?_
      have e := rd_drop h
      simp only [laws_eqIntS.l0, e]
      rw [if_pos (by omega), if_pos (by omega), if_pos (by omega), if_pos (by simp), wrap_succ h1 hn]
      exact hk
theorem laws_eqIntS_ev (l : List Int) (hn : l.length ≤ 9223372036854775807) : Ev (fun k => laws_eqIntS.f k l l) true :=
  Ev.of1 (laws_eqIntS_l0 l hn l 0 rfl) fun k hk => by
    simp only [laws_eqIntS.f]
    rw [if_pos (by simp)]
    exact hk
theorem laws_eqModel_ev (x y z : Int) (t g r : List Int) (ht : t.length ≤ 1048576) (hg : g.length ≤ 1048576) (hr : r.length ≤ 1048576) : Ev (fun k => laws_eqModel.f k x y z t g r x y z t g r) true :=
  (ev_and (laws_eqIntS_ev t (by omega)) <| ev_and (laws_eqIntS_ev g (by omega)) <| ev_one (laws_eqIntS_ev r (by omega))).ev fun k ⟨h1, h2, h3⟩ => by
    simp [laws_eqModel.f, laws_eqGrid.f, h1, h2, h3]
theorem laws_eqIntSS_l0 (l : List (List Int)) (hn : l.length ≤ 1048576) (hl : ∀ y ∈ l, y.length ≤ 1048576) : ∀ (ys : List (List Int)) (i : Nat), l.drop i = ys → Ev (fun k => laws_eqIntSS.l0 k l l i) true
  | [], i, h => Ev.next0 fun k => by
      have h0 := drop_nil h
      simp only [laws_eqIntSS.l0]
      rw [if_neg (by omega)]
  | y :: ys, i, h => by
      obtain ⟨h1, h2, h3⟩ := drop_cons h
      have hy := hl y (List.mem_of_getElem? h2)
      refine Ev.next2 (laws_eqIntSS_l0 l hn hl ys (i + 1) h3) (laws_eqIntS_ev y (by omega)) fun k hk hk2 => ?_
      have e : rd_L1 l i = y := getD_drop h
      simp only [laws_eqIntSS.l0, e, hk2, Option.bind_some]
      rw [if_pos (by omega), if_pos (by omega), if_pos (by omega), if_pos (by simp), wrap_succ h1 (by omega)]
      exact hk
theorem laws_eqIntSS_ev (l : List (List Int)) (hn : l.length ≤ 1048576) (hl : ∀ y ∈ l, y.length ≤ 1048576) : Ev (fun k => laws_eqIntSS.f k l l) true :=
  Ev.of1 (laws_eqIntSS_l0 l hn hl l 0 rfl) fun k hk => by
    simp only [laws_eqIntSS.f]
    rw [if_pos (by simp)]
    exact hk
theorem laws_eqJob_ev (m : List (List Int)) (t v : List Int) (a b c d e : Int) (hm : m.length ≤ 1048576) (hl : ∀ y ∈ m, y.length ≤ 1048576) (ht : t.length ≤ 1048576) (hv : v.length ≤ 1048576) : Ev (fun k => laws_eqJob.f k m t v a b c d e m t v a b c d e) true :=
  (ev_and (laws_eqIntSS_ev m hm hl) <| ev_and (laws_eqIntS_ev t (by omega)) <| ev_one (laws_eqIntS_ev v (by omega))).ev fun k ⟨h1, h2, h3⟩ => by
    simp [laws_eqJob.f, laws_eqLimits.f, h1, h2, h3]
theorem spec_l1In_eq (a lo hi : Int) : spec_l1In.f a lo hi = some (decide (lo ≤ a ∧ a ≤ hi)) := by
  unfold spec_l1In.f
  split
  · congr 1; simp; omega
  · congr 1; simp; omega
theorem spec_grGood_eq (x y z : Int) : spec_grGood.f x y z = some (gridOk x y z) := by
  simp only [spec_grGood.f, spec_l1In_eq, Option.bind_some, decide_eq_true_eq, gridOk]
  by_cases hx : 1 ≤ x ∧ x ≤ 8
  · rw [if_pos hx]
    by_cases hy : 1 ≤ y ∧ y ≤ 6
    · rw [if_pos hy]
      by_cases hz : 1 ≤ z ∧ z ≤ 5
      · rw [if_pos hz, grid_wrap hx hy hz]; congr 1; simp [hx, hy, hz]
      · rw [if_neg hz]; congr 1; symm; simp; omega
    · rw [if_neg hy]; congr 1; symm; simp; omega
  · rw [if_neg hx]; congr 1; symm; simp; omega
theorem spec_grCount_eq (x y z : Int) (h : gridOk x y z = true) : spec_grCount.f x y z = some (x * y * z) := by
  have hb := grid_ok h
  simp only [spec_grCount.f]
  rw [grid_wrap hb.1 hb.2.1 hb.2.2.1]
theorem spec_l1All_l0 (lo hi : Int) (l : List Int) (hn : l.length ≤ 9223372036854775807) : ∀ (ys : List Int) (i : Nat), l.drop i = ys → Ev (fun k => spec_l1All.l0 k lo hi l (l.length : Int) i) (allIn lo hi ys)
  | [], i, h => Ev.next0 fun k => by
      have h0 := drop_nil h
      simp only [spec_l1All.l0, allIn]
      rw [if_neg (by omega)]
  | y :: ys, i, h => by
      obtain ⟨h1, h2, h3⟩ := drop_cons h
      refine Ev.next1 (spec_l1All_l0 lo hi l hn ys (i + 1) h3) fun k hk => ?_
      have e := rd_drop h
      simp only [spec_l1All.l0, e, spec_l1In_eq, Option.bind_some]
      rw [if_pos (by omega), if_pos (by omega), if_pos (by omega), wrap_succ h1 hn]
      by_cases hy : lo ≤ y ∧ y ≤ hi
      · rw [if_pos (decide_eq_true hy), hk]; simp [allIn, hy]
      · rw [if_neg (by simp; omega)]; simp [allIn, hy]
theorem spec_l1All_ev (l : List Int) (lo hi : Int) (hn : l.length ≤ 9223372036854775807) : Ev (fun k => spec_l1All.f k l lo hi) (allIn lo hi l) :=
  Ev.of1 (spec_l1All_l0 lo hi l hn l 0 rfl) fun k hk => by simp only [spec_l1All.f]; exact hk
theorem spec_moGood_ev (x y z : Int) (t g r : List Int) (ht : t.length ≤ 1048576) (hg : g.length ≤ 1048576) (hr : r.length ≤ 1048576) : Ev (fun k => spec_moGood.f k x y z t g r) (modelOk x y z t g r) :=
  (ev_and (spec_l1All_ev t 0 10000 (by omega)) <| ev_and (spec_l1All_ev g 0 1000 (by omega)) <| ev_one (spec_l1All_ev r 0 4 (by omega))).ev fun k ⟨h1, h2, h3⟩ => by
    simp only [spec_moGood.f, spec_grGood_eq, Option.bind_some, modelOk]
    by_cases h : gridOk x y z = true
    · rw [if_pos h, spec_grCount_eq x y z h, Option.bind_some, h1, h2, h3]
      simp only [Option.bind_some, h, Bool.true_and]
      by_cases e1 : (t.length : Int) = x * y * z
      · rw [if_pos e1]
        by_cases e2 : (g.length : Int) = x * y * z
        · rw [if_pos e2]
          by_cases e3 : (r.length : Int) = x * y * z
          · rw [if_pos e3, decide_eq_true ⟨e1, e2, e3⟩]
            cases allIn 0 10000 t <;> cases allIn 0 1000 g <;> simp
          · rw [if_neg e3, decide_eq_false (fun h => e3 h.2.2)]; rfl
        · rw [if_neg e2, decide_eq_false (fun h => e2 h.2.1)]; rfl
      · rw [if_neg e1, decide_eq_false (fun h => e1 h.1)]; rfl
    · rw [if_neg h]; simp [h]
theorem spec_l1Rising_l0 (n : Int) (l : List Int) (hn : l.length ≤ 9223372036854775807) : ∀ (ys : List Int) (i : Nat) (p : Int), l.drop i = ys → (i = 0 ∧ p = -1 ∨ 0 < i ∧ l[i - 1]? = some p) → Ev (fun k => spec_l1Rising.l0 k l 0 (n - 1) l (l.length : Int) i) (rise n p ys)
  | [], i, p, h, hp => Ev.next0 fun k => by
      have h0 := drop_nil h
      simp only [spec_l1Rising.l0, rise]
      rw [if_neg (by omega)]
  | y :: ys, i, p, h, hp => by
      obtain ⟨h1, h2, h3⟩ := drop_cons h
      refine Ev.next1 (spec_l1Rising_l0 n l hn ys (i + 1) y h3 (.inr ⟨by omega, by simpa using h2⟩)) fun k hk => ?_
      have e := rd_drop h
      simp only [spec_l1Rising.l0, e, spec_l1In_eq, Option.bind_some, rise]
      rw [if_pos (by omega), if_pos (by omega), if_pos (by omega), wrap_succ h1 hn]
      by_cases hy : 0 ≤ y ∧ y < n
      · rw [if_pos (by simp; omega)]
        rcases hp with ⟨rfl, rfl⟩ | ⟨hi, hp⟩
        · rw [if_neg (by omega), hk]; simp; omega
        · have e2 : rd l (wrap64 ((i : Int) - 1)) = p := by
            rw [wrap_id (by omega) (by omega), show (i : Int) - 1 = ((i - 1 : Nat) : Int) by omega]; exact rd_get hp
          rw [if_pos (by omega), wrap_id (by omega) (by omega), if_pos (by omega), if_pos (by omega)]
          rw [wrap_id (by omega) (by omega)] at e2
          rw [e2]
          by_cases hq : p < y
          · rw [if_neg (by omega), hk]; simp [hy, hq]
          · rw [if_pos (by omega)]; simp [hq]
      · rw [if_neg (by simp; omega)]; congr 1; symm; simp; omega
theorem spec_l1Rising_ev (n : Int) (l : List Int) (hn : l.length ≤ 9223372036854775807) : Ev (fun k => spec_l1Rising.f k l 0 (n - 1)) (rise n (-1) l) :=
  Ev.of1 (spec_l1Rising_l0 n l hn l 0 (-1) rfl (.inl ⟨rfl, rfl⟩)) fun k hk => by simp only [spec_l1Rising.f]; exact hk
/-- Each row rises and names earlier rows only. -/
def arcsOk : List (List Int) → Nat → Bool
  | [], _ => true
  | l :: ls, i => rise (i : Int) (-1) l && arcsOk ls (i + 1)
theorem spec_clArcs_l0 (m : List (List Int)) (hn : m.length ≤ 1048576) (hl : ∀ y ∈ m, y.length ≤ 1048576) : ∀ (ls : List (List Int)) (i : Nat), m.drop i = ls → Ev (fun k => spec_clArcs.l0 k m m (m.length : Int) i) (arcsOk ls i && decide (1 ≤ m.length ∧ m.length ≤ 120))
  | [], i, h => Ev.next0 fun k => by
      have h0 := drop_nil h
      simp only [spec_clArcs.l0, spec_l1In_eq, Option.bind_some, arcsOk, Bool.true_and]
      rw [if_neg (by omega)]; congr 1; rw [decide_eq_decide]; omega
  | l :: ls, i, h => by
      obtain ⟨h1, h2, h3⟩ := drop_cons h
      have e : rd_L1 m (i : Int) = l := getD_drop h
      have hy := hl l (List.mem_of_getElem? h2)
      refine Ev.next2 (spec_l1Rising_ev (i : Int) l (by omega)) (spec_clArcs_l0 m hn hl ls (i + 1) h3) fun k k1 k2 => ?_
      simp only [spec_clArcs.l0, e]
      rw [if_pos (by omega), if_pos (by omega), if_pos (by omega), wrap_id (x := (i : Int) - 1) (by omega) (by omega), k1, Option.bind_some, wrap_succ h1 (by omega)]
      by_cases hr : rise (i : Int) (-1) l = true
      · rw [if_pos hr, k2]; simp [arcsOk, hr]
      · rw [if_neg hr]; simp [arcsOk, hr]
theorem spec_clArcs_ev (m : List (List Int)) (hn : m.length ≤ 1048576) (hl : ∀ y ∈ m, y.length ≤ 1048576) : Ev (fun k => spec_clArcs.f k m) (arcsOk m 0 && decide (1 ≤ m.length ∧ m.length ≤ 120)) :=
  Ev.of1 (spec_clArcs_l0 m hn hl m 0 rfl) fun k hk => by simp only [spec_clArcs.f]; exact hk
def limOk (a b c d e : Int) : Bool := decide (0 ≤ a ∧ a ≤ 1000000 ∧ 0 ≤ b ∧ b ≤ 1000000 ∧ 1 ≤ c ∧ c ≤ 6 ∧ 1 ≤ d ∧ d ≤ e ∧ e ≤ 20)
def jobOk (m : List (List Int)) (t v : List Int) (a b c d e : Int) : Bool := (arcsOk m 0 && decide (1 ≤ m.length ∧ m.length ≤ 120)) && (decide (t.length = m.length ∧ v.length = m.length) && (allIn 0 10000 t && (allIn (-1000000) 1000000 v && limOk a b c d e)))
theorem spec_plJob_j0 (m : List (List Int)) (t v : List Int) (a b c d e : Int) : Ev (fun k => spec_plJob.j0 k false m t v a b c d e) (limOk a b c d e) := Ev.next0 fun k => by
  simp only [spec_plJob.j0, spec_l1In_eq, Option.bind_some, Bool.false_eq_true, if_false, limOk, decide_eq_true_eq]
  repeat' split
  all_goals first | (congr 1; rw [decide_eq_decide]; omega) | (congr 1; symm; simp; omega)
theorem spec_plJob_no (m : List (List Int)) (t v : List Int) (a b c d e : Int) : Ev (fun k => spec_plJob.j0 k true m t v a b c d e) false := Ev.next0 fun k => by simp [spec_plJob.j0]
theorem spec_plJob_ev (m : List (List Int)) (t v : List Int) (a b c d e : Int) (hm : m.length ≤ 1048576) (hl : ∀ y ∈ m, y.length ≤ 1048576) (ht : t.length ≤ 1048576) (hv : v.length ≤ 1048576) : Ev (fun k => spec_plJob.f k m t v a b c d e) (jobOk m t v a b c d e) := by
  refine (ev_and (spec_clArcs_ev m hm hl) <| ev_and (spec_l1All_ev t 0 10000 (by omega)) <| ev_and (spec_l1All_ev v (-1000000) 1000000 (by omega)) <| ev_and (spec_plJob_j0 m t v a b c d e) <| ev_one (spec_plJob_no m t v a b c d e)).ev fun k ⟨h1, h2, h3, h4, h5⟩ => ?_
  simp only [spec_plJob.f, h1, h2, h3, Option.bind_some, jobOk]
  by_cases g1 : (arcsOk m 0 && decide (1 ≤ m.length ∧ m.length ≤ 120)) = true
  · rw [if_pos g1, g1, Bool.true_and]
    by_cases g2 : t.length = m.length
    · rw [if_pos (by omega)]
      by_cases g3 : v.length = m.length
      · rw [if_pos (by omega), decide_eq_true (⟨g2, g3⟩ : t.length = m.length ∧ v.length = m.length), Bool.true_and]
        cases g4 : allIn 0 10000 t
        · rw [if_neg (by simp), h5]; rfl
        · rw [if_pos (by simp), Bool.true_and]
          cases g5 : allIn (-1000000) 1000000 v
          · exact h5
          · exact h4
      · rw [if_neg (by omega), decide_eq_false (fun q : t.length = m.length ∧ v.length = m.length => g3 q.2), h5]; rfl
    · rw [if_neg (by omega), decide_eq_false (fun q : t.length = m.length ∧ v.length = m.length => g2 q.1), h5]; rfl
  · rw [if_neg g1, h5, show (arcsOk m 0 && decide (1 ≤ m.length ∧ m.length ≤ 120)) = false by simpa using g1]; rfl
theorem spec_l1Same_l0 (p q : List Int) (hn : p.length ≤ 1048576) (hl : p.length = q.length) : ∀ (us ws : List Int) (j : Nat), p.drop j = us → q.drop j = ws → Ev (fun k => spec_l1Same.l0 k p q (p.length : Int) j) (decide (us = ws))
  | [], [], j, h, h' => Ev.next0 fun k => by
      have h0 := drop_nil h
      simp only [spec_l1Same.l0]
      rw [if_neg (by omega)]; rfl
  | [], w :: ws, j, h, h' => by
      have h0 := drop_nil h; have h1 := (drop_cons h').1; omega
  | u :: us, [], j, h, h' => by
      have h0 := drop_nil h'; have h1 := (drop_cons h).1; omega
  | u :: us, w :: ws, j, h, h' => by
      obtain ⟨h1, h2, h3⟩ := drop_cons h
      obtain ⟨g1, g2, g3⟩ := drop_cons h'
      have e := rd_drop h
      have e' := rd_drop h'
      refine Ev.next1 (spec_l1Same_l0 p q hn hl us ws (j + 1) h3 g3) fun k hk => ?_
      simp only [spec_l1Same.l0, e, e']
      rw [if_pos (by omega), if_pos (by omega), if_pos (by omega), if_pos (by omega), wrap_succ h1 (by omega)]
      by_cases g : u = w
      · rw [if_pos g, hk]; congr 1; simp [g]
      · rw [if_neg g]; congr 1; simp [g]
theorem spec_l1Same_ev (p q : List Int) (hn : p.length ≤ 1048576) : Ev (fun k => spec_l1Same.f k p q) (decide (p = q)) := by
  by_cases hl : p.length = q.length
  · refine Ev.of1 (spec_l1Same_l0 p q hn hl p q 0 rfl rfl) fun k hk => ?_
    simp only [spec_l1Same.f]
    rw [if_pos (by omega)]; exact hk
  · refine Ev.all fun k => ?_
    simp only [spec_l1Same.f]
    rw [if_neg (by omega)]; congr 1; symm; simp; intro h; exact hl (by rw [h])
theorem spec_acBoth_ev (x y z : Int) (p g r : List Int) (m : List (List Int)) (t v : List Int) (a b c d e : Int) (hp : p.length ≤ 1048576) (hg : g.length ≤ 1048576) (hr : r.length ≤ 1048576) (hm : m.length ≤ 1048576) (hl : ∀ y ∈ m, y.length ≤ 1048576) (ht : t.length ≤ 1048576) (hv : v.length ≤ 1048576) : Ev (fun k => spec_acBoth.f k x y z p g r m t v a b c d e) (modelOk x y z p g r && (jobOk m t v a b c d e && decide (p = t))) :=
  (ev_and (spec_moGood_ev x y z p g r hp hg hr) <| ev_and (spec_plJob_ev m t v a b c d e hm hl ht hv) <| ev_one (spec_l1Same_ev p t hp)).ev fun k ⟨h1, h2, h3⟩ => by
    simp only [spec_acBoth.f, h1, h2, h3, Option.bind_some]
    by_cases g1 : modelOk x y z p g r = true
    · rw [if_pos g1, g1]
      by_cases g2 : jobOk m t v a b c d e = true
      · rw [if_pos g2, g2]; rfl
      · rw [if_neg g2]; simp [g2]
    · rw [if_neg g1]; simp [g1]
theorem spec_acGrade_eq (a : Int) : spec_acGrade.f a = some (decide (0 ≤ a ∧ a ≤ 1001)) := by
  simp only [spec_acGrade.f, spec_l1In_eq, Option.bind_some]
def toOf (v g : List Int) (i q : Int) : Int := if rd v i > 0 then 0 else (if rd g i ≥ q then 1 else 2)
theorem spec_acTo_eq (x y z : Int) (p g r : List Int) (m : List (List Int)) (t v : List Int) (a b c d e : Int) (i q : Int) (h0 : 0 ≤ i) (h1 : i < (v.length : Int)) (h2 : i < (g.length : Int)) : spec_acTo.f x y z p g r m t v a b c d e i q = some (toOf v g i q) := by
  simp only [spec_acTo.f, toOf]
  rw [if_pos h0, if_pos h1, if_pos h2]
  by_cases c1 : rd v i > 0
  · rw [if_pos c1, if_pos c1]
  · rw [if_neg c1, if_neg c1]
    by_cases c2 : rd g i ≥ q
    · rw [if_pos c2, if_pos c2]
    · rw [if_neg c2, if_neg c2]
/-- The lists of a model that is good: their lengths and bounds. -/
theorem model_ok {x y z : Int} {t g r : List Int} (h : modelOk x y z t g r = true) : gridOk x y z = true ∧ ((t.length : Int) = x * y * z ∧ (g.length : Int) = x * y * z ∧ (r.length : Int) = x * y * z) ∧ allIn 0 10000 t = true ∧ allIn 0 1000 g = true ∧ allIn 0 4 r = true := by
  simp only [modelOk, Bool.and_eq_true, decide_eq_true_eq] at h
  exact ⟨h.1.1, h.1.2, h.2.1, h.2.2.1, h.2.2.2⟩
-- needs: model_facts
theorem both_len (x y z : Int) (p g r : List Int) (m : List (List Int)) (t v : List Int) (a b c d e : Int) (h : modelOk x y z p g r = true ∧ jobOk m t v a b c d e = true ∧ p = t) : v.length = p.length ∧ g.length = p.length ∧ m.length = p.length := by
  obtain ⟨_, l1, _⟩ := model_ok h.1
  have h2 := h.2.1
  simp only [jobOk, Bool.and_eq_true, decide_eq_true_eq] at h2
  have h3 := h2.2.1
  have h4 := h.2.2
  rw [← h4] at h3
  omega
def destOf (x y z : Int) (p g r : List Int) (m : List (List Int)) (t v : List Int) (a b c d e : Int) (i q : Int) : Int × Bool := if (modelOk x y z p g r = true ∧ jobOk m t v a b c d e = true ∧ p = t) ∧ (0 ≤ i ∧ i < (p.length : Int)) ∧ (0 ≤ q ∧ q ≤ 1001) then (toOf v g i q, true) else (0, false)
theorem spec_DestinationOf_ev (x y z : Int) (p g r : List Int) (m : List (List Int)) (t v : List Int) (a b c d e : Int) (i q : Int) (hp : p.length ≤ 1048576) (hg : g.length ≤ 1048576) (hr : r.length ≤ 1048576) (hm : m.length ≤ 1048576) (hl : ∀ y ∈ m, y.length ≤ 1048576) (ht : t.length ≤ 1048576) (hv : v.length ≤ 1048576) : Ev (fun k => spec_DestinationOf.f k x y z p g r m t v a b c d e i q) (destOf x y z p g r m t v a b c d e i q) := by
  refine Ev.of1 (spec_acBoth_ev x y z p g r m t v a b c d e hp hg hr hm hl ht hv) fun k hk => ?_
  simp only [spec_DestinationOf.f, hk, spec_l1In_eq, spec_acGrade_eq, Option.bind_some]
  rw [wrap_id (x := (p.length : Int) - 1) (by omega) (by omega)]
  by_cases h : modelOk x y z p g r = true ∧ jobOk m t v a b c d e = true ∧ p = t
  · have hb := both_len x y z p g r m t v a b c d e h
    rw [if_pos (by simp only [h.1, h.2.1, decide_eq_true h.2.2, Bool.true_and])]
    by_cases h1 : 0 ≤ i ∧ i < (p.length : Int)
    · rw [if_pos (by simp; omega)]
      by_cases h2 : 0 ≤ q ∧ q ≤ 1001
      · rw [if_pos (by simpa using h2), spec_acTo_eq x y z p g r m t v a b c d e i q h1.1 (by omega) (by omega), Option.bind_some, destOf, if_pos ⟨h, h1, h2⟩]
      · rw [if_neg (by simpa using h2), destOf, if_neg (fun w => h2 w.2.2)]
    · rw [if_neg (by simp; omega), destOf, if_neg (fun w => h1 w.2.1)]
  · rw [if_neg (by simpa using h), destOf, if_neg (fun w => h w.1)]
theorem impl_IsGrid_eq (x y z : Int) : impl_IsGrid.f x y z = some (gridOk x y z) := by
  simp only [impl_IsGrid.f, gridOk]
  by_cases hx : 1 ≤ x ∧ x ≤ 8
  · rw [if_pos (by omega), if_pos (by omega)]
    by_cases hy : 1 ≤ y ∧ y ≤ 6
    · rw [if_pos (by omega), if_pos (by omega)]
      by_cases hz : 1 ≤ z ∧ z ≤ 5
      · rw [if_pos (by omega), if_pos (by omega), grid_wrap hx hy hz]; congr 1; simp [hx, hy, hz]
      · have e : decide (1 ≤ x ∧ x ≤ 8 ∧ 1 ≤ y ∧ y ≤ 6 ∧ 1 ≤ z ∧ z ≤ 5 ∧ x * y * z ≤ 120) = false := by simp; omega
        rw [e]; split
        · rw [if_neg (by omega)]
        · rfl
    · have e : decide (1 ≤ x ∧ x ≤ 8 ∧ 1 ≤ y ∧ y ≤ 6 ∧ 1 ≤ z ∧ z ≤ 5 ∧ x * y * z ≤ 120) = false := by simp; omega
      rw [e]; split
      · rw [if_neg (by omega)]
      · rfl
  · have e : decide (1 ≤ x ∧ x ≤ 8 ∧ 1 ≤ y ∧ y ≤ 6 ∧ 1 ≤ z ∧ z ≤ 5 ∧ x * y * z ≤ 120) = false := by simp; omega
    rw [e]; split
    · rw [if_neg (by omega)]
    · rfl
theorem impl_blocksOf_eq (x y z : Int) (h : gridOk x y z = true) : impl_blocksOf.f x y z = some (x * y * z) := by
  have hb := grid_ok h
  simp only [impl_blocksOf.f]
  rw [grid_wrap hb.1 hb.2.1 hb.2.2.1]
theorem impl_IsModel_l0 (x y z : Int) (t g r : List Int) (n : Nat) (hn : n ≤ 1048576) (ht : t.length = n) (hg : g.length = n) (hr : r.length = n) : ∀ (ts gs rs : List Int) (i : Nat), t.drop i = ts → g.drop i = gs → r.drop i = rs → Ev (fun k => impl_IsModel.l0 k (n : Int) i x y z t g r) (allIn 0 10000 ts && (allIn 0 1000 gs && allIn 0 4 rs))
  | [], gs, rs, i, h, hg', hr' => Ev.next0 fun k => by
      have h0 := drop_nil h
      have e1 : gs = [] := by rw [← hg']; exact List.drop_of_length_le (by omega)
      have e2 : rs = [] := by rw [← hr']; exact List.drop_of_length_le (by omega)
      subst e1 e2
      simp only [impl_IsModel.l0, allIn]
      rw [if_neg (by omega)]; rfl
  | a :: ts, [], rs, i, h, hg', hr' => by have h1 := (drop_cons h).1; have h2 := drop_nil hg'; omega
  | a :: ts, b :: gs, [], i, h, hg', hr' => by have h1 := (drop_cons h).1; have h2 := drop_nil hr'; omega
  | a :: ts, b :: gs, c :: rs, i, h, hg', hr' => by
      obtain ⟨h1, h2, h3⟩ := drop_cons h
      obtain ⟨g1, g2, g3⟩ := drop_cons hg'
      obtain ⟨r1, r2, r3⟩ := drop_cons hr'
      have ea := rd_drop h
      have eb := rd_drop hg'
      have ec := rd_drop hr'
      refine Ev.next1 (impl_IsModel_l0 x y z t g r n hn ht hg hr ts gs rs (i + 1) h3 g3 r3) fun k hk => ?_
      simp only [impl_IsModel.l0, ea, eb, ec]
      rw [if_pos (by omega), if_pos (by omega), if_pos (by omega)]
      by_cases ka : 0 ≤ a ∧ a ≤ 10000
      · rw [if_neg (by omega), if_neg (by omega), if_pos (by omega)]
        by_cases kb : 0 ≤ b ∧ b ≤ 1000
        · rw [if_neg (by omega), if_neg (by omega), if_pos (by omega)]
          by_cases kc : 0 ≤ c ∧ c ≤ 4
          · rw [if_neg (by omega), if_neg (by omega), wrap_succ h1 (by omega), hk]
            simp [allIn, ka, kb, kc]
          · have e : (allIn 0 10000 (a :: ts) && (allIn 0 1000 (b :: gs) && allIn 0 4 (c :: rs))) = false := by simp [allIn, kc]
            rw [e]; split
            · rfl
            · rw [if_pos (by omega)]
        · have e : (allIn 0 10000 (a :: ts) && (allIn 0 1000 (b :: gs) && allIn 0 4 (c :: rs))) = false := by simp [allIn, kb]
          rw [e]; split
          · rfl
          · rw [if_pos (by omega)]
      · have e : (allIn 0 10000 (a :: ts) && (allIn 0 1000 (b :: gs) && allIn 0 4 (c :: rs))) = false := by simp [allIn, ka]
        rw [e]; split
        · rfl
        · rw [if_pos (by omega)]
theorem impl_IsModel_ev (x y z : Int) (t g r : List Int) (ht : t.length ≤ 1048576) (hg : g.length ≤ 1048576) (hr : r.length ≤ 1048576) : Ev (fun k => impl_IsModel.f k x y z t g r) (modelOk x y z t g r) := by
  by_cases h : gridOk x y z = true
  · have no : ∀ n : Int, Ev (fun k => impl_IsModel.j0 k n true x y z t g r) false := fun n => Ev.next0 fun k => by simp [impl_IsModel.j0]
    by_cases e : (t.length : Int) = x * y * z ∧ (g.length : Int) = x * y * z ∧ (r.length : Int) = x * y * z
    · obtain ⟨e1, e2, e3⟩ := e
      have h1 : Ev (fun k => impl_IsModel.j0 k (x * y * z) false x y z t g r) (allIn 0 10000 t && (allIn 0 1000 g && allIn 0 4 r)) := by
        refine Ev.next1 (impl_IsModel_l0 x y z t g r t.length ht rfl (by omega) (by omega) t g r 0 rfl rfl rfl) fun k hk => ?_
        simp only [impl_IsModel.j0]
        rw [if_neg (by simp), ← e1]; exact hk
      refine Ev.of1 h1 fun k hk => ?_
      simp only [impl_IsModel.f, impl_IsGrid_eq, Option.bind_some, impl_blocksOf_eq x y z h]
      rw [if_pos h, if_pos e1, if_pos e2, show ((r.length : Int) != x * y * z) = false by simp [e3], hk]
      simp [modelOk, h, e1, e2, e3]
    · refine Ev.of1 (no (x * y * z)) fun k hk => ?_
      have em : modelOk x y z t g r = false := by
        simp only [modelOk, decide_eq_false e, Bool.and_false, Bool.false_and]
      simp only [impl_IsModel.f, impl_IsGrid_eq, Option.bind_some, impl_blocksOf_eq x y z h]
      rw [if_pos h, em]
      by_cases e1 : (t.length : Int) = x * y * z
      · rw [if_pos e1]
        by_cases e2 : (g.length : Int) = x * y * z
        · rw [if_pos e2, show ((r.length : Int) != x * y * z) = true by
            have e3 : ¬ (r.length : Int) = x * y * z := fun e3 => e ⟨e1, e2, e3⟩
            simpa using e3, hk]
        · rw [if_neg e2, hk]
      · rw [if_neg e1, hk]
  · refine Ev.all fun k => ?_
    simp only [impl_IsModel.f, impl_IsGrid_eq, Option.bind_some]
    rw [if_neg h]; simp [modelOk, h]
theorem impl_areBlocks_l0 (n : Int) (l : List Int) (hn : l.length ≤ 9223372036854775807) : ∀ (ys : List Int) (i : Nat) (p : Int), l.drop i = ys → (i = 0 ∧ p = -1 ∨ 0 < i ∧ l[i - 1]? = some p) → Ev (fun k => impl_areBlocks.l0 k l n l (l.length : Int) i) (rise n p ys)
  | [], i, p, h, hp => Ev.next0 fun k => by
      have h0 := drop_nil h
      simp only [impl_areBlocks.l0, rise]
      rw [if_neg (by omega)]
  | y :: ys, i, p, h, hp => by
      obtain ⟨h1, h2, h3⟩ := drop_cons h
      refine Ev.next1 (impl_areBlocks_l0 n l hn ys (i + 1) y h3 (.inr ⟨by omega, by simpa using h2⟩)) fun k hk => ?_
      have e := rd_drop h
      simp only [impl_areBlocks.l0, e, rise]
      rw [if_pos (by omega), if_pos (by omega), if_pos (by omega), wrap_succ h1 hn]
      by_cases hy : 0 ≤ y ∧ y < n
      · rw [if_neg (by omega), if_neg (by omega)]
        rcases hp with ⟨rfl, rfl⟩ | ⟨hi, hp⟩
        · rw [if_neg (by omega), hk]; simp; omega
        · have e2 : rd l ((i : Int) - 1) = p := by
            rw [show (i : Int) - 1 = ((i - 1 : Nat) : Int) by omega]; exact rd_get hp
          rw [if_pos (by omega), wrap_id (by omega) (by omega), if_pos (by omega), if_pos (by omega), e2]
          by_cases hq : p < y
          · rw [if_neg (by omega), hk]; simp [hy, hq]
          · rw [if_pos (by omega)]; simp [hq]
      · have e3 : (decide (0 ≤ y ∧ y < n ∧ p < y) && rise n y ys) = false := by simp; omega
        rw [e3]; split
        · rfl
        · rw [if_pos (by omega)]
theorem impl_areBlocks_ev (n : Int) (l : List Int) (hn : l.length ≤ 9223372036854775807) : Ev (fun k => impl_areBlocks.f k l n) (rise n (-1) l) :=
  Ev.of1 (impl_areBlocks_l0 n l hn l 0 (-1) rfl (.inl ⟨rfl, rfl⟩)) fun k hk => by simp only [impl_areBlocks.f]; exact hk
-- needs: spec_clArcs
theorem impl_AreArcs_l0 (m : List (List Int)) (hn : m.length ≤ 1048576) (hl : ∀ y ∈ m, y.length ≤ 1048576) : ∀ (ls : List (List Int)) (i : Nat), m.drop i = ls → Ev (fun k => impl_AreArcs.l0 k m (m.length : Int) i) (arcsOk ls i)
  | [], i, h => Ev.next0 fun k => by
      have h0 := drop_nil h
      simp only [impl_AreArcs.l0, arcsOk]
      rw [if_neg (by omega)]
  | l :: ls, i, h => by
      obtain ⟨h1, h2, h3⟩ := drop_cons h
      have e : rd_L1 m (i : Int) = l := getD_drop h
      have hy := hl l (List.mem_of_getElem? h2)
      refine Ev.next2 (impl_areBlocks_ev (i : Int) l (by omega)) (impl_AreArcs_l0 m hn hl ls (i + 1) h3) fun k k1 k2 => ?_
      simp only [impl_AreArcs.l0, e]
      rw [if_pos (by omega), if_pos (by omega), if_pos (by omega), k1, Option.bind_some, wrap_succ h1 (by omega)]
      by_cases hr : rise (i : Int) (-1) l = true
      · rw [if_pos hr, k2]; simp [arcsOk, hr]
      · rw [if_neg hr]; simp [arcsOk, hr]
theorem impl_AreArcs_ev (m : List (List Int)) (hn : m.length ≤ 1048576) (hl : ∀ y ∈ m, y.length ≤ 1048576) : Ev (fun k => impl_AreArcs.f k m) (arcsOk m 0 && decide (1 ≤ m.length ∧ m.length ≤ 120)) := by
  have no : Ev (fun k => impl_AreArcs.j0 k m true) false := Ev.next0 fun k => by simp [impl_AreArcs.j0]
  by_cases h1 : m.length < 1
  · refine Ev.of1 no fun k hk => ?_
    simp only [impl_AreArcs.f]
    rw [if_pos (by omega), hk, decide_eq_false (by omega), Bool.and_false]
  · by_cases h2 : m.length > 120
    · refine Ev.of1 no fun k hk => ?_
      simp only [impl_AreArcs.f]
      rw [if_neg (by omega), show decide ((m.length : Int) > 120) = true by simp; omega, hk, decide_eq_false (by omega), Bool.and_false]
    · have yes : Ev (fun k => impl_AreArcs.j0 k m false) (arcsOk m 0) := Ev.next1 (impl_AreArcs_l0 m hn hl m 0 rfl) fun k hk => by
        simp only [impl_AreArcs.j0, Bool.false_eq_true, if_false]; exact hk
      refine Ev.of1 yes fun k hk => ?_
      simp only [impl_AreArcs.f]
      rw [if_neg (by omega), show decide ((m.length : Int) > 120) = false by simp; omega, hk, decide_eq_true (by omega), Bool.and_true]
theorem impl_goodValues_l0 (l : List Int) (hn : l.length ≤ 9223372036854775807) : ∀ (ys : List Int) (i : Nat), l.drop i = ys → Ev (fun k => impl_goodValues.l0 k l (l.length : Int) i) (allIn (-1000000) 1000000 ys)
  | [], i, h => Ev.next0 fun k => by
      have h0 := drop_nil h
      simp only [impl_goodValues.l0, allIn]
      rw [if_neg (by omega)]
  | y :: ys, i, h => by
      obtain ⟨h1, h2, h3⟩ := drop_cons h
      refine Ev.next1 (impl_goodValues_l0 l hn ys (i + 1) h3) fun k hk => ?_
      have e := rd_drop h
      simp only [impl_goodValues.l0, e]
      rw [if_pos (by omega), if_pos (by omega), if_pos (by omega), wrap_succ h1 hn]
      by_cases hy : -1000000 ≤ y
      · rw [if_neg (by omega)]
        by_cases hz : y ≤ 1000000
        · rw [if_neg (by omega), hk]; simp [allIn, hy, hz]
        · rw [if_pos (by omega)]; simp [allIn, hz]
      · rw [if_pos (by omega)]; simp [allIn, hy]
theorem impl_goodValues_ev (l : List Int) (hn : l.length ≤ 9223372036854775807) : Ev (fun k => impl_goodValues.f k l) (decide (1 ≤ l.length ∧ l.length ≤ 120) && allIn (-1000000) 1000000 l) := by
  by_cases h : 1 ≤ l.length ∧ l.length ≤ 120
  · have h1 : Ev (fun k => impl_goodValues.j0 k l false) (allIn (-1000000) 1000000 l) := Ev.next1 (impl_goodValues_l0 l hn l 0 rfl) fun k hk => by
      simp only [impl_goodValues.j0]; rw [if_neg (by simp)]; exact hk
    refine Ev.of1 h1 fun k hk => ?_
    have e : decide ((l.length : Int) > 120) = false := by simp; omega
    simp only [impl_goodValues.f]
    rw [if_neg (by omega), e, hk]; simp [h]
  · have h1 : Ev (fun k => impl_goodValues.j0 k l true) false := Ev.next0 fun k => by simp [impl_goodValues.j0]
    refine Ev.of1 h1 fun k hk => ?_
    simp only [impl_goodValues.f]
    by_cases h2 : l.length < 1
    · rw [if_pos (by omega), hk]; simp; omega
    · have e : decide ((l.length : Int) > 120) = true := by simp; omega
      rw [if_neg (by omega), e, hk]; simp; omega
theorem impl_areValued_ev (m : List (List Int)) (v : List Int) (hn : m.length ≤ 1048576) (hl : ∀ y ∈ m, y.length ≤ 1048576) (hv : v.length ≤ 1048576) : Ev (fun k => impl_areValued.f k m v) ((arcsOk m 0 && decide (1 ≤ m.length ∧ m.length ≤ 120)) && (decide (v.length = m.length) && allIn (-1000000) 1000000 v)) := by
  refine (ev_and (impl_AreArcs_ev m hn hl) <| ev_one (impl_goodValues_ev v (by omega))).ev fun k ⟨h1, h2⟩ => ?_
  simp only [impl_areValued.f, h1, h2, Option.bind_some]
  by_cases g1 : (arcsOk m 0 && decide (1 ≤ m.length ∧ m.length ≤ 120)) = true
  · rw [if_pos g1, g1, Bool.true_and]
    have g2 : 1 ≤ m.length ∧ m.length ≤ 120 := by simp only [Bool.and_eq_true, decide_eq_true_eq] at g1; exact g1.2
    by_cases g3 : v.length = m.length
    · rw [decide_eq_true g3, decide_eq_true (show 1 ≤ v.length ∧ v.length ≤ 120 by omega), Bool.true_and]
      cases allIn (-1000000) 1000000 v
      · rfl
      · rw [if_pos rfl]; congr 1; simp [g3]
    · rw [decide_eq_false g3, Bool.false_and]
      by_cases g4 : (decide (1 ≤ v.length ∧ v.length ≤ 120) && allIn (-1000000) 1000000 v) = true
      · rw [if_pos g4]; congr 1; simp; omega
      · rw [if_neg g4]
  · rw [if_neg g1, show (arcsOk m 0 && decide (1 ≤ m.length ∧ m.length ≤ 120)) = false by simpa using g1]; rfl
-- needs: spec_plJob
theorem impl_IsJob_l0 (m : List (List Int)) (t v : List Int) (a b c d e : Int) (ht : t.length ≤ 1048576) : ∀ (us : List Int) (i : Nat), t.drop i = us → Ev (fun k => impl_IsJob.l0 k t (t.length : Int) i m t v a b c d e) (allIn 0 10000 us && limOk a b c d e)
  | [], i, h => Ev.next0 fun k => by
      have h0 := drop_nil h
      simp only [impl_IsJob.l0, allIn, Bool.true_and, limOk]
      rw [if_neg (by omega)]
      repeat' split
      all_goals first | (congr 1; rw [decide_eq_decide]; omega) | (congr 1; symm; simp; omega)
  | u :: us, i, h => by
      obtain ⟨h1, h2, h3⟩ := drop_cons h
      have e1 := rd_drop h
      refine Ev.next1 (impl_IsJob_l0 m t v a b c d e ht us (i + 1) h3) fun k hk => ?_
      simp only [impl_IsJob.l0, e1, allIn]
      rw [if_pos (by omega), if_pos (by omega), if_pos (by omega), wrap_succ h1 (by omega)]
      by_cases g : 0 ≤ u ∧ u ≤ 10000
      · rw [if_neg (by omega), if_neg (by omega), hk]; simp [g]
      · rw [decide_eq_false g]
        by_cases g0 : u < 0
        · rw [if_pos g0]; rfl
        · rw [if_neg g0, if_pos (by omega)]; rfl
theorem impl_IsJob_no (m : List (List Int)) (t v : List Int) (a b c d e : Int) : Ev (fun k => impl_IsJob.j0 k true m t v a b c d e) false := Ev.next0 fun k => by simp [impl_IsJob.j0]
theorem impl_IsJob_ev (m : List (List Int)) (t v : List Int) (a b c d e : Int) (hm : m.length ≤ 1048576) (hl : ∀ y ∈ m, y.length ≤ 1048576) (ht : t.length ≤ 1048576) (hv : v.length ≤ 1048576) : Ev (fun k => impl_IsJob.f k m t v a b c d e) (jobOk m t v a b c d e) := by
  have yes : Ev (fun k => impl_IsJob.j0 k false m t v a b c d e) (allIn 0 10000 t && limOk a b c d e) := Ev.next1 (impl_IsJob_l0 m t v a b c d e ht t 0 rfl) fun k hk => by
    simp only [impl_IsJob.j0, Bool.false_eq_true, if_false]; exact hk
  refine (ev_and (impl_areValued_ev m v hm hl hv) <| ev_and yes <| ev_one (impl_IsJob_no m t v a b c d e)).ev fun k ⟨h1, h2, h3⟩ => ?_
  simp only [impl_IsJob.f, h1, Option.bind_some, jobOk]
  by_cases g1 : (arcsOk m 0 && decide (1 ≤ m.length ∧ m.length ≤ 120)) = true
  · rw [g1, Bool.true_and, Bool.true_and]
    by_cases g2 : v.length = m.length
    · rw [decide_eq_true g2, Bool.true_and]
      by_cases g3 : t.length = m.length
      · rw [show ((t.length : Int) != (m.length : Int)) = false by simp [g3], decide_eq_true (⟨g3, g2⟩ : t.length = m.length ∧ v.length = m.length), Bool.true_and]
        cases g4 : allIn (-1000000) 1000000 v
        · rw [if_neg (by simp), h3]; simp
        · rw [if_pos (by simp), h2, Bool.true_and]
      · rw [show ((t.length : Int) != (m.length : Int)) = true by simp; omega, decide_eq_false (fun q : t.length = m.length ∧ v.length = m.length => g3 q.1)]
        split <;> (rw [h3]; rfl)
    · rw [decide_eq_false g2, decide_eq_false (fun q : t.length = m.length ∧ v.length = m.length => g2 q.2), if_neg (by simp), h3]; rfl
  · rw [show (arcsOk m 0 && decide (1 ≤ m.length ∧ m.length ≤ 120)) = false by simpa using g1, if_neg (by simp), h3]; rfl
theorem slices_Equal_int_int_l0 (p q : List Int) (hn : p.length ≤ 1048576) (hl : p.length = q.length) : ∀ (us ws : List Int) (j : Nat), p.drop j = us → q.drop j = ws → Ev (fun k => slices_Equal_int_int.l0 k p q (p.length : Int) j) (decide (us = ws))
  | [], [], j, h, h' => Ev.next0 fun k => by
      have h0 := drop_nil h
      simp only [slices_Equal_int_int.l0]
      rw [if_neg (by omega)]; rfl
  | [], w :: ws, j, h, h' => by
      have h0 := drop_nil h; have h1 := (drop_cons h').1; omega
  | u :: us, [], j, h, h' => by
      have h0 := drop_nil h'; have h1 := (drop_cons h).1; omega
  | u :: us, w :: ws, j, h, h' => by
      obtain ⟨h1, h2, h3⟩ := drop_cons h
      obtain ⟨g1, g2, g3⟩ := drop_cons h'
      have e := rd_drop h
      have e' := rd_drop h'
      refine Ev.next1 (slices_Equal_int_int_l0 p q hn hl us ws (j + 1) h3 g3) fun k hk => ?_
      simp only [slices_Equal_int_int.l0, e, e']
      rw [if_pos (by omega), if_pos (by omega), if_pos (by omega), if_pos (by omega), wrap_succ h1 (by omega)]
      by_cases g : u = w
      · rw [if_pos g, hk]; congr 1; simp [g]
      · rw [if_neg g]; congr 1; simp [g]
theorem slices_Equal_int_int_ev (p q : List Int) (hn : p.length ≤ 1048576) : Ev (fun k => slices_Equal_int_int.f k p q) (decide (p = q)) := by
  by_cases hl : p.length = q.length
  · refine Ev.of1 (slices_Equal_int_int_l0 p q hn hl p q 0 rfl rfl) fun k hk => ?_
    simp only [slices_Equal_int_int.f]
    rw [if_pos (by omega)]; exact hk
  · refine Ev.all fun k => ?_
    simp only [slices_Equal_int_int.f]
    rw [if_neg (by omega)]; congr 1; symm; simp; intro h; exact hl (by rw [h])
theorem impl_areOneMine_ev (x y z : Int) (p g r : List Int) (m : List (List Int)) (t v : List Int) (a b c d e : Int) (hp : p.length ≤ 1048576) (hg : g.length ≤ 1048576) (hr : r.length ≤ 1048576) (hm : m.length ≤ 1048576) (hl : ∀ y ∈ m, y.length ≤ 1048576) (ht : t.length ≤ 1048576) (hv : v.length ≤ 1048576) : Ev (fun k => impl_areOneMine.f k x y z p g r m t v a b c d e) (modelOk x y z p g r && (jobOk m t v a b c d e && decide (p = t))) :=
  (ev_and (impl_IsModel_ev x y z p g r hp hg hr) <| ev_and (impl_IsJob_ev m t v a b c d e hm hl ht hv) <| ev_one (slices_Equal_int_int_ev p t hp)).ev fun k ⟨h1, h2, h3⟩ => by
    simp only [impl_areOneMine.f, h1, h2, h3, Option.bind_some]
    by_cases g1 : modelOk x y z p g r = true
    · rw [if_pos g1, g1]
      by_cases g2 : jobOk m t v a b c d e = true
      · rw [if_pos g2, g2]; rfl
      · rw [if_neg g2]; simp [g2]
    · rw [if_neg g1]; simp [g1]
theorem impl_isCutoff_eq (a : Int) : impl_isCutoff.f a = some (decide (0 ≤ a ∧ a ≤ 1001)) := by
  simp only [impl_isCutoff.f]
  split
  · congr 1; rw [decide_eq_decide]; omega
  · congr 1; symm; simp; omega
-- needs: spec_acTo
theorem impl_destinationOf_eq (x y z : Int) (p g r : List Int) (m : List (List Int)) (t v : List Int) (a b c d e : Int) (i q : Int) (h0 : 0 ≤ i) (h1 : i < (v.length : Int)) (h2 : i < (g.length : Int)) : impl_destinationOf.f x y z p g r m t v a b c d e i q = some (toOf v g i q) := by
  simp only [impl_destinationOf.f, toOf]
  rw [if_pos h0, if_pos h1, if_pos h2]
  by_cases c1 : rd v i > 0
  · rw [if_pos c1, if_pos c1]
  · rw [if_neg c1, if_neg c1]
    by_cases c2 : rd g i ≥ q
    · rw [if_pos c2, if_pos c2]
    · rw [if_neg c2, if_neg c2]
-- needs: spec_DestinationOf
theorem impl_DestinationOf_ev (x y z : Int) (p g r : List Int) (m : List (List Int)) (t v : List Int) (a b c d e : Int) (i q : Int) (hp : p.length ≤ 1048576) (hg : g.length ≤ 1048576) (hr : r.length ≤ 1048576) (hm : m.length ≤ 1048576) (hl : ∀ y ∈ m, y.length ≤ 1048576) (ht : t.length ≤ 1048576) (hv : v.length ≤ 1048576) : Ev (fun k => impl_DestinationOf.f k x y z p g r m t v a b c d e i q) (destOf x y z p g r m t v a b c d e i q) := by
  refine Ev.of1 (impl_areOneMine_ev x y z p g r m t v a b c d e hp hg hr hm hl ht hv) fun k hk => ?_
  simp only [impl_DestinationOf.f, hk, impl_isCutoff_eq, Option.bind_some]
  by_cases h : modelOk x y z p g r = true ∧ jobOk m t v a b c d e = true ∧ p = t
  · have hb := both_len x y z p g r m t v a b c d e h
    rw [if_pos (by simp only [h.1, h.2.1, decide_eq_true h.2.2, Bool.true_and])]
    by_cases h1 : 0 ≤ i ∧ i < (p.length : Int)
    · rw [if_neg (by omega), if_neg (by omega)]
      by_cases h2 : 0 ≤ q ∧ q ≤ 1001
      · rw [if_pos (by simpa using h2), impl_destinationOf_eq x y z p g r m t v a b c d e i q h1.1 (by omega) (by omega), Option.bind_some, destOf, if_pos ⟨h, h1, h2⟩]
      · rw [if_neg (by simpa using h2), destOf, if_neg (fun w => h2 w.2.2)]
    · have e2 : destOf x y z p g r m t v a b c d e i q = (0, false) := by rw [destOf, if_neg (fun w => h1 w.2.1)]
      rw [e2]
      by_cases h3 : i < 0
      · rw [if_pos h3]
      · rw [if_neg h3, if_pos (by omega)]
  · rw [if_neg (by simpa using h), destOf, if_neg (fun w => h w.1)]
theorem j0_ev (x y z : Int) (p g r : List Int) (m : List (List Int)) (t v : List Int) (a b c d e : Int) (hp : p.length ≤ 1048576) (hg : g.length ≤ 1048576) (hr : r.length ≤ 1048576) (hm : m.length ≤ 1048576) (hl : ∀ y ∈ m, y.length ≤ 1048576) (ht : t.length ≤ 1048576) (hv : v.length ≤ 1048576) : Ev (fun k => laws_FnExactDestinationOf.j0 k false x y z p g r m t v a b c d e x y z p g r m t v a b c d e) true :=
  (ev_and (laws_toModel_ev x y z p g r hp hg hr) <| ev_and (laws_eqModel_ev x y z p g r hp hg hr) <| ev_and (laws_toJob_ev m t v a b c d e hm hl ht hv) <| ev_one (laws_eqJob_ev m t v a b c d e hm hl ht hv)).next fun k ⟨h1, h2, h3, h4⟩ => by
    simp [laws_FnExactDestinationOf.j0, h1, h2, h3, h4]
theorem FnExactDestinationOf : Stat.FnExactDestinationOf := by
  intro x y z p g r m t v a b c d e i q _ _ _ hp hg hr hm ht hv _ _ _ _ _ _ _
  refine Ev.rounds ?_
  have hs := laws_szModel_eq x y z p g r 1048576 (by omega) (by omega) hp.1 hg.1 hr.1
  by_cases hq : (1048576 : Int) < ((p.length + g.length + r.length : Nat) : Int)
  · refine Ev.all fun k => ?_
    simp only [laws_FnExactDestinationOf.f, hs, Option.bind_some]
    rw [left_lt hq, if_pos (by omega)]
  have hl : left 1048576 (p.length + g.length + r.length) = 1048576 - ((p.length + g.length + r.length : Nat) : Int) := left_ge (by omega)
  have hj := laws_szJob_ev m t v a b c d e (1048576 - ((p.length + g.length + r.length : Nat) : Int)) hm.1 (fun y hy => (hm.2 y hy).1) ht.1 hv.1 (by omega) (by omega)
  by_cases hw : 1048576 - ((p.length + g.length + r.length : Nat) : Int) < ((tot m + t.length + v.length : Nat) : Int)
  · refine (ev_one hj).ev fun k h1 => ?_
    simp only [laws_FnExactDestinationOf.f, hs, Option.bind_some]
    rw [hl, if_neg (by omega), h1, Option.bind_some, left_lt hw, if_pos (by omega)]
  have ho := tot_eq m
  have h1 : p.length ≤ 1048576 := by omega
  have h2 : g.length ≤ 1048576 := by omega
  have h3 : r.length ≤ 1048576 := by omega
  have h4 : m.length ≤ 1048576 := by omega
  have h5 : ∀ y ∈ m, y.length ≤ 1048576 := fun y hy => by have := sumLen_mem hy; omega
  have h6 : t.length ≤ 1048576 := by omega
  have h7 : v.length ≤ 1048576 := by omega
  refine (ev_and hj <| ev_and (laws_toModel_ev x y z p g r h1 h2 h3) <| ev_and (laws_toJob_ev m t v a b c d e h4 h5 h6 h7) <| ev_and (spec_DestinationOf_ev x y z p g r m t v a b c d e i q h1 h2 h3 h4 h5 h6 h7) <| ev_and (impl_DestinationOf_ev x y z p g r m t v a b c d e i q h1 h2 h3 h4 h5 h6 h7) <| ev_one (j0_ev x y z p g r m t v a b c d e h1 h2 h3 h4 h5 h6 h7)).ev fun k ⟨a0, a1, a2, a3, a4, a5⟩ => ?_
  simp only [laws_FnExactDestinationOf.f, hs, Option.bind_some]
  rw [hl, if_neg (by omega), a0, Option.bind_some, left_ge (by omega), if_neg (by omega)]
  simp only [a1, a2, a3, a4, Option.bind_some]
  simp [a5]
end Go.Proofs.Ytagnldmaglbpaaa.PureFnExactDestinationOf
namespace Go.Proofs.Ytagnldmaglbpaaa.Pure
theorem FnExactDestinationOf : Stat.FnExactDestinationOf := PureFnExactDestinationOf.FnExactDestinationOf
end Go.Proofs.Ytagnldmaglbpaaa.Pure
