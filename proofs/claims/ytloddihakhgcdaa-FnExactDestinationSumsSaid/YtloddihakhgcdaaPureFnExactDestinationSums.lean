/- The law FnExactDestinationSums over numbers and lists: it is true of every input. -/
import Derived.Test.YtloddihakhgcdaaStatFnExactDestinationSums
import Derived.Test.YtloddihakhgcdaaWMore
set_option linter.unusedVariables false
set_option linter.unusedSimpArgs false
namespace Go.Proofs.Ytloddihakhgcdaa.Kit
open Go.RowKit Go.Proofs.YtloddihakhgcdaaW.PrintWords Go.Proofs.YtloddihakhgcdaaW.PrintMore

/-! ### Rounds -/
theorem Ev.all {α : Type} {g : Nat → Option α} {r : α} (h : ∀ k, g k = some r) : Ev g r := ⟨0, fun k _ => h k⟩
theorem Ev.of1 {α β : Type} {g : Nat → Option α} {f : Nat → Option β} {r : α} {b : β} (h : Ev f b) (k : ∀ k, f k = some b → g k = some r) : Ev g r := by
  obtain ⟨K, h⟩ := h; exact ⟨K, fun n hn => k n (h n hn)⟩
theorem Ev.of2 {α β γ : Type} {g : Nat → Option α} {f : Nat → Option β} {f' : Nat → Option γ} {r : α} {b : β} {c : γ} (h : Ev f b) (h' : Ev f' c) (k : ∀ k, f k = some b → f' k = some c → g k = some r) : Ev g r := by
  obtain ⟨K, h⟩ := h; obtain ⟨K', h'⟩ := h'; exact ⟨K + K', fun n hn => k n (h n (by omega)) (h' n (by omega))⟩
theorem Ev.next0 {α : Type} {g : Nat → Option α} {r : α} (h : ∀ k, g (k + 1) = some r) : Ev g r :=
  ⟨1, fun n hn => by obtain ⟨m, rfl⟩ : ∃ m, n = m + 1 := ⟨n - 1, by omega⟩; exact h m⟩
theorem Ev.next1 {α β : Type} {g : Nat → Option α} {f : Nat → Option β} {r : α} {b : β} (h : Ev f b) (k : ∀ k, f k = some b → g (k + 1) = some r) : Ev g r := by
  obtain ⟨K, h⟩ := h
  exact ⟨K + 1, fun n hn => by obtain ⟨m, rfl⟩ : ∃ m, n = m + 1 := ⟨n - 1, by omega⟩; exact k m (h m (by omega))⟩
theorem Ev.next2 {α β γ : Type} {g : Nat → Option α} {f : Nat → Option β} {f' : Nat → Option γ} {r : α} {b : β} {c : γ} (h : Ev f b) (h' : Ev f' c) (k : ∀ k, f k = some b → f' k = some c → g (k + 1) = some r) : Ev g r := by
  obtain ⟨K, h⟩ := h; obtain ⟨K', h'⟩ := h'
  exact ⟨K + K' + 1, fun n hn => by obtain ⟨m, rfl⟩ : ∃ m, n = m + 1 := ⟨n - 1, by omega⟩; exact k m (h m (by omega)) (h' m (by omega))⟩
/-- From some number of rounds on. -/
def Evt (p : Nat → Prop) : Prop := ∃ K, ∀ k, K ≤ k → p k
theorem ev_one {α : Type} {f : Nat → Option α} {a : α} (h : Ev f a) : Evt (fun k => f k = some a) := h
theorem ev_and {α : Type} {f : Nat → Option α} {a : α} {p : Nat → Prop} (h : Ev f a) (h' : Evt p) : Evt (fun k => f k = some a ∧ p k) := by
  obtain ⟨K, h⟩ := h; obtain ⟨K', h'⟩ := h'; exact ⟨K + K', fun n hn => ⟨h n (by omega), h' n (by omega)⟩⟩
theorem Evt.ev {α : Type} {g : Nat → Option α} {r : α} {p : Nat → Prop} (h : Evt p) (k : ∀ k, p k → g k = some r) : Ev g r := by
  obtain ⟨K, h⟩ := h; exact ⟨K, fun n hn => k n (h n hn)⟩
theorem Evt.next {α : Type} {g : Nat → Option α} {r : α} {p : Nat → Prop} (h : Evt p) (k : ∀ k, p k → g (k + 1) = some r) : Ev g r := by
  obtain ⟨K, h⟩ := h
  exact ⟨K + 1, fun n hn => by obtain ⟨m, rfl⟩ : ∃ m, n = m + 1 := ⟨n - 1, by omega⟩; exact k m (h m (by omega))⟩

/-! ### Whole numbers -/
theorem wrap_id {x : Int} (h0 : -9223372036854775808 ≤ x) (h1 : x ≤ 9223372036854775807) : wrap64 x = x := by unfold wrap64; omega
theorem wrap_succ {i n : Nat} (h : i < n) (hn : n ≤ 9223372036854775807) : wrap64 ((i : Int) + 1) = ((i + 1 : Nat) : Int) := by unfold wrap64; omega
theorem toNat_cast (i : Nat) : ((i : Int)).toNat = i := by omega

/-! ### Lists from an index on -/
theorem drop_cons {α : Type} {xs ys : List α} {y : α} {i : Nat} (h : xs.drop i = y :: ys) : i < xs.length ∧ xs[i]? = some y ∧ xs.drop (i + 1) = ys := by
  have hlt : i < xs.length := by
    by_cases hlt : i < xs.length
    · exact hlt
    · rw [List.drop_of_length_le (by omega)] at h; cases h
  rw [List.drop_eq_getElem_cons hlt] at h
  injection h with h1 h2
  exact ⟨hlt, by rw [List.getElem?_eq_getElem hlt, h1], h2⟩
theorem drop_nil {α : Type} {xs : List α} {i : Nat} (h : xs.drop i = []) : xs.length ≤ i := by simpa using h
theorem getD_drop {α : Type} {xs ys : List α} {y d : α} {i : Nat} (h : xs.drop i = y :: ys) : xs.getD ((i : Int)).toNat d = y := by
  rw [toNat_cast, List.getD_eq_getElem?_getD, (drop_cons h).2.1]; rfl
theorem rd_drop {xs ys : List Int} {y : Int} {i : Nat} (h : xs.drop i = y :: ys) : rd xs (i : Int) = y := getD_drop h
theorem getD_get {α : Type} {xs : List α} {y d : α} {i : Nat} (h : xs[i]? = some y) : xs.getD ((i : Int)).toNat d = y := by
  rw [toNat_cast, List.getD_eq_getElem?_getD, h]; rfl
theorem rd_get {xs : List Int} {y : Int} {i : Nat} (h : xs[i]? = some y) : rd xs (i : Int) = y := getD_get h
/-- What is left of a, n taken off; -1 if it isn't enough. -/
def left (a : Int) (n : Nat) : Int := if a < (n : Int) then -1 else a - (n : Int)
theorem left_lt {a : Int} {n : Nat} (h : a < (n : Int)) : left a n = -1 := if_pos h
theorem left_ge {a : Int} {n : Nat} (h : (n : Int) ≤ a) : left a n = a - (n : Int) := if_neg (by omega)
/-- How many values rows hold, the rows counted too. -/
def tot : List (List Int) → Nat
  | [] => 0
  | y :: ys => 1 + y.length + tot ys
def sumLen : List (List Int) → Nat
  | [] => 0
  | y :: ys => y.length + sumLen ys
theorem tot_eq : ∀ ls : List (List Int), tot ls = ls.length + sumLen ls
  | [] => rfl
  | y :: ys => by simp only [tot, sumLen, List.length_cons, tot_eq ys]; omega
theorem sumLen_mem : ∀ {ls : List (List Int)} {y : List Int}, y ∈ ls → y.length ≤ sumLen ls
  | z :: zs, y, h => by
    rcases List.mem_cons.1 h with rfl | h
    · simp only [sumLen]; omega
    · have := sumLen_mem h; simp only [sumLen]; omega

/-! ### A list that is copied, element for element -/
theorem copy_step {α : Type} {m x : List α} {y : α} {i : Nat} (hm : m[i]? = some y) (hl : x.length = m.length) (ht : x.take i = m.take i) : (x.set i y).length = m.length ∧ (x.set i y).take (i + 1) = m.take (i + 1) := by
  obtain ⟨hi, rfl⟩ := List.getElem?_eq_some_iff.1 hm
  refine ⟨by simpa using hl, ?_⟩
  apply List.ext_getElem?
  intro j
  have hj : (x.take i)[j]? = (m.take i)[j]? := by rw [ht]
  rw [List.getElem?_take, List.getElem?_take] at *
  by_cases h1 : j < i + 1
  · rw [if_pos h1, if_pos h1]
    by_cases h2 : j = i
    · subst h2
      rw [List.getElem?_set_self (by omega), List.getElem?_eq_getElem hi]
    · rw [List.getElem?_set_ne (by omega)]
      rw [if_pos (by omega), if_pos (by omega)] at hj
      exact hj
  · rw [if_neg h1, if_neg h1]
theorem copy_end {α : Type} {m x : List α} {i : Nat} (hl : x.length = m.length) (ht : x.take i = m.take i) (hi : m.length ≤ i) : x = m := by
  rw [List.take_of_length_le (by omega), List.take_of_length_le hi] at ht; exact ht

/-! ### Strictly increasing lists of 0..n-1 -/
def rise (n : Int) : Int → List Int → Bool
  | _, [] => true
  | p, y :: ys => decide (0 ≤ y ∧ y < n ∧ p < y) && rise n y ys
theorem rise_mem {n : Int} : ∀ {p : Int} {ys : List Int}, rise n p ys = true → ∀ y ∈ ys, 0 ≤ y ∧ y < n ∧ p < y
  | p, [], _, y, hy => by cases hy
  | p, z :: zs, h, y, hy => by
    simp only [rise, Bool.and_eq_true, decide_eq_true_eq] at h
    rcases List.mem_cons.1 hy with rfl | hy
    · exact h.1
    · have := rise_mem h.2 y hy; omega

/-! ### Numbers marked and held -/
def markI : Nat → Int → List Int
  | 0, _ => []
  | n + 1, k => k :: markI n (k + 1)
theorem markI_length : ∀ (n : Nat) (k : Int), (markI n k).length = n
  | 0, _ => rfl
  | n + 1, k => by simp [markI, markI_length n (k + 1)]
theorem markI_get : ∀ (n : Nat) (k : Int) (j : Nat), j < n → (markI n k)[j]? = some (k + j)
  | 0, _, _, h => by omega
  | n + 1, k, 0, _ => by simp [markI]
  | n + 1, k, j + 1, h => by simp only [markI, List.getElem?_cons_succ]; rw [markI_get n (k + 1) j (by omega)]; congr 1; push_cast; omega
end Go.Proofs.Ytloddihakhgcdaa.Kit
namespace Go.Proofs.Ytloddihakhgcdaa.Model
open Go.RowKit Go.Proofs.YtloddihakhgcdaaW.PrintWords Go.Proofs.Ytloddihakhgcdaa.Kit

/-- Numbers within bounds, all of them. -/
def allIn (lo hi : Int) : List Int → Bool
  | [] => true
  | y :: ys => decide (lo ≤ y ∧ y ≤ hi) && allIn lo hi ys
theorem allIn_mem {lo hi : Int} : ∀ {ys : List Int}, allIn lo hi ys = true → ∀ y ∈ ys, lo ≤ y ∧ y ≤ hi
  | [], _, y, hy => by cases hy
  | z :: zs, h, y, hy => by
    simp only [allIn, Bool.and_eq_true, decide_eq_true_eq] at h
    rcases List.mem_cons.1 hy with rfl | hy
    · exact h.1
    · exact allIn_mem h.2 y hy
theorem allIn_get {lo hi : Int} {ys : List Int} (h : allIn lo hi ys = true) {i : Nat} {y : Int} (hy : ys[i]? = some y) : lo ≤ y ∧ y ≤ hi := allIn_mem h y (List.mem_of_getElem? hy)
def gridOk (x y z : Int) : Bool := decide (1 ≤ x ∧ x ≤ 8 ∧ 1 ≤ y ∧ y ≤ 6 ∧ 1 ≤ z ∧ z ≤ 5 ∧ x * y * z ≤ 120)
theorem grid_prod {x y z : Int} (hx : 1 ≤ x ∧ x ≤ 8) (hy : 1 ≤ y ∧ y ≤ 6) (hz : 1 ≤ z ∧ z ≤ 5) : 1 ≤ x * y ∧ x * y ≤ 48 ∧ 1 ≤ x * y * z ∧ x * y * z ≤ 240 := by
  rcases (by omega : x = 1 ∨ x = 2 ∨ x = 3 ∨ x = 4 ∨ x = 5 ∨ x = 6 ∨ x = 7 ∨ x = 8) with rfl | rfl | rfl | rfl | rfl | rfl | rfl | rfl <;>
    rcases (by omega : z = 1 ∨ z = 2 ∨ z = 3 ∨ z = 4 ∨ z = 5) with rfl | rfl | rfl | rfl | rfl <;> omega
theorem grid_ok {x y z : Int} (h : gridOk x y z = true) : (1 ≤ x ∧ x ≤ 8) ∧ (1 ≤ y ∧ y ≤ 6) ∧ (1 ≤ z ∧ z ≤ 5) ∧ 1 ≤ x * y ∧ x * y ≤ 48 ∧ 1 ≤ x * y * z ∧ x * y * z ≤ 120 := by
  simp only [gridOk, decide_eq_true_eq] at h
  have := grid_prod (x := x) (y := y) (z := z) (by omega) (by omega) (by omega)
  omega
theorem grid_wrap {x y z : Int} (hx : 1 ≤ x ∧ x ≤ 8) (hy : 1 ≤ y ∧ y ≤ 6) (hz : 1 ≤ z ∧ z ≤ 5) : wrap64 (wrap64 (x * y) * z) = x * y * z := by
  have := grid_prod hx hy hz
  rw [wrap_id (x := x * y) (by omega) (by omega), wrap_id (by omega) (by omega)]
def modelOk (x y z : Int) (t g r : List Int) : Bool := gridOk x y z && decide ((t.length : Int) = x * y * z ∧ (g.length : Int) = x * y * z ∧ (r.length : Int) = x * y * z) && (allIn 0 10000 t && (allIn 0 1000 g && allIn 0 4 r))
end Go.Proofs.Ytloddihakhgcdaa.Model
namespace Go.Proofs.Ytloddihakhgcdaa.PureFnExactDestinationSums
open Go.RowKit Go.Proofs.Ytloddihakhgcdaa.PFnExactDestinationSums Go.Proofs.YtloddihakhgcdaaW.PrintWords Go.Proofs.YtloddihakhgcdaaW.PrintLast Go.Proofs.YtloddihakhgcdaaW.PrintMore Go.Proofs.Ytloddihakhgcdaa.Kit Go.Proofs.Ytloddihakhgcdaa.Model
theorem laws_szIntS_eq (l : List Int) (a : Int) (h0 : 0 ≤ a) (ha : a ≤ 1048576) (hn : l.length ≤ 9223372036854775807) : laws_szIntS.f l a = some (if a < l.length then -1 else a - l.length) := by
  simp only [laws_szIntS.f]
  rw [wrap_id (by omega) (by omega)]
  split
  · rw [if_pos (by omega)]
  · rw [if_neg (by omega)]
theorem laws_szModel_eq (x y z : Int) (t g r : List Int) (a : Int) (h0 : 0 ≤ a) (ha : a ≤ 1048576) (ht : t.length ≤ 9223372036854775807) (hg : g.length ≤ 9223372036854775807) (hr : r.length ≤ 9223372036854775807) : laws_szModel.f x y z t g r a = some (left a (t.length + g.length + r.length)) := by
  simp only [laws_szModel.f, laws_szIntS_eq t a h0 ha ht, Option.bind_some]
  by_cases h1 : a < (t.length : Int)
  · rw [if_pos h1, if_pos (by omega), left_lt (by omega)]
  · rw [if_neg h1, if_neg (by omega), laws_szIntS_eq g _ (by omega) (by omega) hg, Option.bind_some]
    by_cases h2 : a - (t.length : Int) < (g.length : Int)
    · rw [if_pos h2, if_pos (by omega), left_lt (by omega)]
    · rw [if_neg h2, if_neg (by omega), laws_szIntS_eq r _ (by omega) (by omega) hr, Option.bind_some]
      by_cases h3 : a - (t.length : Int) - (g.length : Int) < (r.length : Int)
      · rw [if_pos h3, if_pos (by omega), left_lt (by omega)]
      · rw [if_neg h3, if_neg (by omega), left_ge (by omega)]; congr 1; omega
theorem laws_szIntSS_l0 (l : List (List Int)) (hn : l.length ≤ 9223372036854775807) (hl : ∀ y ∈ l, y.length ≤ 9223372036854775807) : ∀ (ys : List (List Int)) (i : Nat) (a : Int), l.drop i = ys → 0 ≤ a → a ≤ 1048576 → Ev (fun k => laws_szIntSS.l0 k l a i) (left a (sumLen ys))
  | [], i, a, h, h0, ha => Ev.next0 fun k => by
      have := drop_nil h
      simp only [laws_szIntSS.l0]
      rw [if_neg (by omega), left_ge (by show ((0 : Nat) : Int) ≤ a; omega)]
      congr 1; show a = a - ((0 : Nat) : Int); omega
  | y :: ys, i, a, h, h0, ha => by
      obtain ⟨h1, h2, h3⟩ := drop_cons h
      have e : rd_L1 l i = y := getD_drop h
      have e2 := laws_szIntS_eq y a h0 ha (hl y (List.mem_of_getElem? h2))
      have hs : sumLen (y :: ys) = y.length + sumLen ys := rfl
      by_cases hy : a < (y.length : Int)
      · refine Ev.next0 fun k => ?_
        simp only [laws_szIntSS.l0, e, e2, Option.bind_some]
        rw [if_pos (by omega), if_pos (by omega), if_pos hy, if_pos (by omega), left_lt (by omega)]
      · refine Ev.next1 (laws_szIntSS_l0 l hn hl ys (i + 1) (a - y.length) h3 (by omega) (by omega)) fun k hk => ?_
        simp only [laws_szIntSS.l0, e, e2, Option.bind_some]
        rw [if_pos (by omega), if_pos (by omega), if_neg hy, if_neg (by omega), wrap_succ h1 hn, hk]
        congr 1
        by_cases hq : a - (y.length : Int) < (sumLen ys : Int)
        · rw [left_lt hq, left_lt (by omega)]
        · rw [left_ge (by omega), left_ge (by omega)]; omega
theorem laws_szIntSS_ev (l : List (List Int)) (a : Int) (hn : l.length ≤ 9223372036854775807) (hl : ∀ y ∈ l, y.length ≤ 9223372036854775807) (h0 : 0 ≤ a) (ha : a ≤ 1048576) : Ev (fun k => laws_szIntSS.f k l a) (left a (tot l)) := by
  have ht := tot_eq l
  by_cases h : a < (l.length : Int)
  · refine Ev.all fun k => ?_
    simp only [laws_szIntSS.f]
    rw [wrap_id (by omega) (by omega), if_pos (by omega), left_lt (by omega)]
  · refine Ev.of1 (laws_szIntSS_l0 l hn hl l 0 (a - l.length) rfl (by omega) (by omega)) fun k hk => ?_
    simp only [laws_szIntSS.f]
    rw [wrap_id (by omega) (by omega), if_neg (by omega)]
    refine hk.trans ?_
    congr 1
    by_cases hq : a < (tot l : Int)
    · rw [left_lt (by omega), left_lt hq]
    · rw [left_ge (by omega), left_ge (by omega)]; omega
theorem laws_szJob_ev (m : List (List Int)) (t v : List Int) (a b c d e : Int) (n : Int) (hm : m.length ≤ 9223372036854775807) (hl : ∀ y ∈ m, y.length ≤ 9223372036854775807) (ht : t.length ≤ 9223372036854775807) (hv : v.length ≤ 9223372036854775807) (h0 : 0 ≤ n) (hn : n ≤ 1048576) : Ev (fun k => laws_szJob.f k m t v a b c d e n) (left n (tot m + t.length + v.length)) := by
  refine Ev.of1 (laws_szIntSS_ev m n hm hl h0 hn) fun k hk => ?_
  simp only [laws_szJob.f, hk, Option.bind_some]
  by_cases h1 : n < (tot m : Int)
  · rw [left_lt h1, if_pos (by omega), left_lt (by omega)]
  · rw [left_ge (by omega), if_neg (by omega), laws_szIntS_eq t _ (by omega) (by omega) ht, Option.bind_some]
    by_cases h2 : n - (tot m : Int) < (t.length : Int)
    · rw [if_pos h2, if_pos (by omega), left_lt (by omega)]
    · rw [if_neg h2, if_neg (by omega), laws_szIntS_eq v _ (by omega) (by omega) hv, Option.bind_some]
      by_cases h3 : n - (tot m : Int) - (t.length : Int) < (v.length : Int)
      · rw [if_pos h3, if_pos (by omega), left_lt (by omega)]
      · rw [if_neg h3, if_neg (by omega), left_ge (by omega)]; congr 1; omega
theorem laws_szPlan_eq (P : Int) (W : List Int) (n : Int) (h0 : 0 ≤ n) (hn : n ≤ 1048576) (hW : W.length ≤ 9223372036854775807) : laws_szPlan.f P W n = some (left n W.length) := by
  simp only [laws_szPlan.f, laws_szIntS_eq W n h0 hn hW, Option.bind_some, left]
  split
  · rw [if_pos (by omega)]
  · rw [if_neg (by omega)]
theorem spec_l1In_eq (a lo hi : Int) : spec_l1In.f a lo hi = some (decide (lo ≤ a ∧ a ≤ hi)) := by
  unfold spec_l1In.f
  split
  · congr 1; simp; omega
  · congr 1; simp; omega
theorem spec_l1All_l0 (lo hi : Int) (l : List Int) (hn : l.length ≤ 9223372036854775807) : ∀ (ys : List Int) (i : Nat), l.drop i = ys → Ev (fun k => spec_l1All.l0 k lo hi l (l.length : Int) i) (allIn lo hi ys)
  | [], i, h => Ev.next0 fun k => by
      have h0 := drop_nil h
      simp only [spec_l1All.l0, allIn]
      rw [if_neg (by omega)]
  | y :: ys, i, h => by
      obtain ⟨h1, h2, h3⟩ := drop_cons h
      refine Ev.next1 (spec_l1All_l0 lo hi l hn ys (i + 1) h3) fun k hk => ?_
      have e := rd_drop h
      simp only [spec_l1All.l0, e, spec_l1In_eq, Option.bind_some]
      rw [if_pos (by omega), if_pos (by omega), if_pos (by omega), wrap_succ h1 hn]
      by_cases hy : lo ≤ y ∧ y ≤ hi
      · rw [if_pos (decide_eq_true hy), hk]; simp [allIn, hy]
      · rw [if_neg (by simp; omega)]; simp [allIn, hy]
theorem spec_l1All_ev (l : List Int) (lo hi : Int) (hn : l.length ≤ 9223372036854775807) : Ev (fun k => spec_l1All.f k l lo hi) (allIn lo hi l) :=
  Ev.of1 (spec_l1All_l0 lo hi l hn l 0 rfl) fun k hk => by simp only [spec_l1All.f]; exact hk
theorem spec_grGood_eq (x y z : Int) : spec_grGood.f x y z = some (gridOk x y z) := by
  simp only [spec_grGood.f, spec_l1In_eq, Option.bind_some, decide_eq_true_eq, gridOk]
  by_cases hx : 1 ≤ x ∧ x ≤ 8
  · rw [if_pos hx]
    by_cases hy : 1 ≤ y ∧ y ≤ 6
    · rw [if_pos hy]
      by_cases hz : 1 ≤ z ∧ z ≤ 5
      · rw [if_pos hz, grid_wrap hx hy hz]; congr 1; simp [hx, hy, hz]
      · rw [if_neg hz]; congr 1; symm; simp; omega
    · rw [if_neg hy]; congr 1; symm; simp; omega
  · rw [if_neg hx]; congr 1; symm; simp; omega
theorem spec_grCount_eq (x y z : Int) (h : gridOk x y z = true) : spec_grCount.f x y z = some (x * y * z) := by
  have hb := grid_ok h
  simp only [spec_grCount.f]
  rw [grid_wrap hb.1 hb.2.1 hb.2.2.1]
theorem spec_moGood_ev (x y z : Int) (t g r : List Int) (ht : t.length ≤ 1048576) (hg : g.length ≤ 1048576) (hr : r.length ≤ 1048576) : Ev (fun k => spec_moGood.f k x y z t g r) (modelOk x y z t g r) :=
  (ev_and (spec_l1All_ev t 0 10000 (by omega)) <| ev_and (spec_l1All_ev g 0 1000 (by omega)) <| ev_one (spec_l1All_ev r 0 4 (by omega))).ev fun k ⟨h1, h2, h3⟩ => by
    simp only [spec_moGood.f, spec_grGood_eq, Option.bind_some, modelOk]
    by_cases h : gridOk x y z = true
    · rw [if_pos h, spec_grCount_eq x y z h, Option.bind_some, h1, h2, h3]
      simp only [Option.bind_some, h, Bool.true_and]
      by_cases e1 : (t.length : Int) = x * y * z
      · rw [if_pos e1]
        by_cases e2 : (g.length : Int) = x * y * z
        · rw [if_pos e2]
          by_cases e3 : (r.length : Int) = x * y * z
          · rw [if_pos e3, decide_eq_true ⟨e1, e2, e3⟩]
            cases allIn 0 10000 t <;> cases allIn 0 1000 g <;> simp
          · rw [if_neg e3, decide_eq_false (fun h => e3 h.2.2)]; rfl
        · rw [if_neg e2, decide_eq_false (fun h => e2 h.2.1)]; rfl
      · rw [if_neg e1, decide_eq_false (fun h => e1 h.1)]; rfl
    · rw [if_neg h]; simp [h]
theorem spec_l1Rising_l0 (n : Int) (l : List Int) (hn : l.length ≤ 9223372036854775807) : ∀ (ys : List Int) (i : Nat) (p : Int), l.drop i = ys → (i = 0 ∧ p = -1 ∨ 0 < i ∧ l[i - 1]? = some p) → Ev (fun k => spec_l1Rising.l0 k l 0 (n - 1) l (l.length : Int) i) (rise n p ys)
  | [], i, p, h, hp => Ev.next0 fun k => by
      have h0 := drop_nil h
      simp only [spec_l1Rising.l0, rise]
      rw [if_neg (by omega)]
  | y :: ys, i, p, h, hp => by
      obtain ⟨h1, h2, h3⟩ := drop_cons h
      refine Ev.next1 (spec_l1Rising_l0 n l hn ys (i + 1) y h3 (.inr ⟨by omega, by simpa using h2⟩)) fun k hk => ?_
      have e := rd_drop h
      simp only [spec_l1Rising.l0, e, spec_l1In_eq, Option.bind_some, rise]
      rw [if_pos (by omega), if_pos (by omega), if_pos (by omega), wrap_succ h1 hn]
      by_cases hy : 0 ≤ y ∧ y < n
      · rw [if_pos (by simp; omega)]
        rcases hp with ⟨rfl, rfl⟩ | ⟨hi, hp⟩
        · rw [if_neg (by omega), hk]; simp; omega
        · have e2 : rd l (wrap64 ((i : Int) - 1)) = p := by
            rw [wrap_id (by omega) (by omega), show (i : Int) - 1 = ((i - 1 : Nat) : Int) by omega]; exact rd_get hp
          rw [if_pos (by omega), wrap_id (by omega) (by omega), if_pos (by omega), if_pos (by omega)]
          rw [wrap_id (by omega) (by omega)] at e2
          rw [e2]
          by_cases hq : p < y
          · rw [if_neg (by omega), hk]; simp [hy, hq]
          · rw [if_pos (by omega)]; simp [hq]
      · rw [if_neg (by simp; omega)]; congr 1; symm; simp; omega
theorem spec_l1Rising_ev (n : Int) (l : List Int) (hn : l.length ≤ 9223372036854775807) : Ev (fun k => spec_l1Rising.f k l 0 (n - 1)) (rise n (-1) l) :=
  Ev.of1 (spec_l1Rising_l0 n l hn l 0 (-1) rfl (.inl ⟨rfl, rfl⟩)) fun k hk => by simp only [spec_l1Rising.f]; exact hk
/-- Each row rises and names earlier rows only. -/
def arcsOk : List (List Int) → Nat → Bool
  | [], _ => true
  | l :: ls, i => rise (i : Int) (-1) l && arcsOk ls (i + 1)
theorem spec_clArcs_l0 (m : List (List Int)) (hn : m.length ≤ 1048576) (hl : ∀ y ∈ m, y.length ≤ 1048576) : ∀ (ls : List (List Int)) (i : Nat), m.drop i = ls → Ev (fun k => spec_clArcs.l0 k m m (m.length : Int) i) (arcsOk ls i && decide (1 ≤ m.length ∧ m.length ≤ 120))
  | [], i, h => Ev.next0 fun k => by
      have h0 := drop_nil h
      simp only [spec_clArcs.l0, spec_l1In_eq, Option.bind_some, arcsOk, Bool.true_and]
      rw [if_neg (by omega)]; congr 1; rw [decide_eq_decide]; omega
  | l :: ls, i, h => by
      obtain ⟨h1, h2, h3⟩ := drop_cons h
      have e : rd_L1 m (i : Int) = l := getD_drop h
      have hy := hl l (List.mem_of_getElem? h2)
      refine Ev.next2 (spec_l1Rising_ev (i : Int) l (by omega)) (spec_clArcs_l0 m hn hl ls (i + 1) h3) fun k k1 k2 => ?_
      simp only [spec_clArcs.l0, e]
      rw [if_pos (by omega), if_pos (by omega), if_pos (by omega), wrap_id (x := (i : Int) - 1) (by omega) (by omega), k1, Option.bind_some, wrap_succ h1 (by omega)]
      by_cases hr : rise (i : Int) (-1) l = true
      · rw [if_pos hr, k2]; simp [arcsOk, hr]
      · rw [if_neg hr]; simp [arcsOk, hr]
theorem spec_clArcs_ev (m : List (List Int)) (hn : m.length ≤ 1048576) (hl : ∀ y ∈ m, y.length ≤ 1048576) : Ev (fun k => spec_clArcs.f k m) (arcsOk m 0 && decide (1 ≤ m.length ∧ m.length ≤ 120)) :=
  Ev.of1 (spec_clArcs_l0 m hn hl m 0 rfl) fun k hk => by simp only [spec_clArcs.f]; exact hk
def limOk (a b c d e : Int) : Bool := decide (0 ≤ a ∧ a ≤ 1000000 ∧ 0 ≤ b ∧ b ≤ 1000000 ∧ 1 ≤ c ∧ c ≤ 6 ∧ 1 ≤ d ∧ d ≤ e ∧ e ≤ 20)
def jobOk (m : List (List Int)) (t v : List Int) (a b c d e : Int) : Bool := (arcsOk m 0 && decide (1 ≤ m.length ∧ m.length ≤ 120)) && (decide (t.length = m.length ∧ v.length = m.length) && (allIn 0 10000 t && (allIn (-1000000) 1000000 v && limOk a b c d e)))
theorem spec_plJob_j0 (m : List (List Int)) (t v : List Int) (a b c d e : Int) : Ev (fun k => spec_plJob.j0 k false m t v a b c d e) (limOk a b c d e) := Ev.next0 fun k => by
  simp only [spec_plJob.j0, spec_l1In_eq, Option.bind_some, Bool.false_eq_true, if_false, limOk, decide_eq_true_eq]
  repeat' split
  all_goals first | (congr 1; rw [decide_eq_decide]; omega) | (congr 1; symm; simp; omega)
theorem spec_plJob_no (m : List (List Int)) (t v : List Int) (a b c d e : Int) : Ev (fun k => spec_plJob.j0 k true m t v a b c d e) false := Ev.next0 fun k => by simp [spec_plJob.j0]
theorem spec_plJob_ev (m : List (List Int)) (t v : List Int) (a b c d e : Int) (hm : m.length ≤ 1048576) (hl : ∀ y ∈ m, y.length ≤ 1048576) (ht : t.length ≤ 1048576) (hv : v.length ≤ 1048576) : Ev (fun k => spec_plJob.f k m t v a b c d e) (jobOk m t v a b c d e) := by
  refine (ev_and (spec_clArcs_ev m hm hl) <| ev_and (spec_l1All_ev t 0 10000 (by omega)) <| ev_and (spec_l1All_ev v (-1000000) 1000000 (by omega)) <| ev_and (spec_plJob_j0 m t v a b c d e) <| ev_one (spec_plJob_no m t v a b c d e)).ev fun k ⟨h1, h2, h3, h4, h5⟩ => ?_
  simp only [spec_plJob.f, h1, h2, h3, Option.bind_some, jobOk]
  by_cases g1 : (arcsOk m 0 && decide (1 ≤ m.length ∧ m.length ≤ 120)) = true
  · rw [if_pos g1, g1, Bool.true_and]
    by_cases g2 : t.length = m.length
    · rw [if_pos (by omega)]
      by_cases g3 : v.length = m.length
      · rw [if_pos (by omega), decide_eq_true (⟨g2, g3⟩ : t.length = m.length ∧ v.length = m.length), Bool.true_and]
        cases g4 : allIn 0 10000 t
        · rw [if_neg (by simp), h5]; rfl
        · rw [if_pos (by simp), Bool.true_and]
          cases g5 : allIn (-1000000) 1000000 v
          · exact h5
          · exact h4
      · rw [if_neg (by omega), decide_eq_false (fun q : t.length = m.length ∧ v.length = m.length => g3 q.2), h5]; rfl
    · rw [if_neg (by omega), decide_eq_false (fun q : t.length = m.length ∧ v.length = m.length => g2 q.1), h5]; rfl
  · rw [if_neg g1, h5, show (arcsOk m 0 && decide (1 ≤ m.length ∧ m.length ≤ 120)) = false by simpa using g1]; rfl
theorem spec_l1Same_l0 (p q : List Int) (hn : p.length ≤ 1048576) (hl : p.length = q.length) : ∀ (us ws : List Int) (j : Nat), p.drop j = us → q.drop j = ws → Ev (fun k => spec_l1Same.l0 k p q (p.length : Int) j) (decide (us = ws))
  | [], [], j, h, h' => Ev.next0 fun k => by
      have h0 := drop_nil h
      simp only [spec_l1Same.l0]
      rw [if_neg (by omega)]; rfl
  | [], w :: ws, j, h, h' => by
      have h0 := drop_nil h; have h1 := (drop_cons h').1; omega
  | u :: us, [], j, h, h' => by
      have h0 := drop_nil h'; have h1 := (drop_cons h).1; omega
  | u :: us, w :: ws, j, h, h' => by
      obtain ⟨h1, h2, h3⟩ := drop_cons h
      obtain ⟨g1, g2, g3⟩ := drop_cons h'
      have e := rd_drop h
      have e' := rd_drop h'
      refine Ev.next1 (spec_l1Same_l0 p q hn hl us ws (j + 1) h3 g3) fun k hk => ?_
      simp only [spec_l1Same.l0, e, e']
      rw [if_pos (by omega), if_pos (by omega), if_pos (by omega), if_pos (by omega), wrap_succ h1 (by omega)]
      by_cases g : u = w
      · rw [if_pos g, hk]; congr 1; simp [g]
      · rw [if_neg g]; congr 1; simp [g]
theorem spec_l1Same_ev (p q : List Int) (hn : p.length ≤ 1048576) : Ev (fun k => spec_l1Same.f k p q) (decide (p = q)) := by
  by_cases hl : p.length = q.length
  · refine Ev.of1 (spec_l1Same_l0 p q hn hl p q 0 rfl rfl) fun k hk => ?_
    simp only [spec_l1Same.f]
    rw [if_pos (by omega)]; exact hk
  · refine Ev.all fun k => ?_
    simp only [spec_l1Same.f]
    rw [if_neg (by omega)]; congr 1; symm; simp; intro h; exact hl (by rw [h])
theorem spec_acBoth_ev (x y z : Int) (p g r : List Int) (m : List (List Int)) (t v : List Int) (a b c d e : Int) (hp : p.length ≤ 1048576) (hg : g.length ≤ 1048576) (hr : r.length ≤ 1048576) (hm : m.length ≤ 1048576) (hl : ∀ y ∈ m, y.length ≤ 1048576) (ht : t.length ≤ 1048576) (hv : v.length ≤ 1048576) : Ev (fun k => spec_acBoth.f k x y z p g r m t v a b c d e) (modelOk x y z p g r && (jobOk m t v a b c d e && decide (p = t))) :=
  (ev_and (spec_moGood_ev x y z p g r hp hg hr) <| ev_and (spec_plJob_ev m t v a b c d e hm hl ht hv) <| ev_one (spec_l1Same_ev p t hp)).ev fun k ⟨h1, h2, h3⟩ => by
    simp only [spec_acBoth.f, h1, h2, h3, Option.bind_some]
    by_cases g1 : modelOk x y z p g r = true
    · rw [if_pos g1, g1]
      by_cases g2 : jobOk m t v a b c d e = true
      · rw [if_pos g2, g2]; rfl
      · rw [if_neg g2]; simp [g2]
    · rw [if_neg g1]; simp [g1]
-- needs: spec_plJob spec_clArcs
def planOk (m : List (List Int)) (c P : Int) (W : List Int) : Bool := decide (P = c ∧ W.length = m.length) && allIn (-1) (c - 1) W
def keepRow (W : List Int) (w : Int) : List Int → Bool
  | [] => true
  | k :: ks => decide (0 ≤ rd W k ∧ rd W k ≤ w) && keepRow W w ks
def keepOne (W : List Int) (w : Int) (r : List Int) : Bool := decide (w < 0) || keepRow W w r
def keepAll (W : List Int) : List Int → List (List Int) → Bool
  | w :: ws, r :: rs => keepOne W w r && keepAll W ws rs
  | _, _ => true
/-- What is mined in a period, all and ore. -/
def totT (q : Int) : List Int → List Int → Int
  | w :: ws, n :: ns => (if w = q then n else 0) + totT q ws ns
  | _, _ => 0
def oreT (q : Int) : List Int → List Int → List Int → Int
  | w :: ws, n :: ns, x :: xs => (if w = q then (if x > 0 then n else 0) else 0) + oreT q ws ns xs
  | _, _, _ => 0
def rowsFrom (W tn v : List Int) : Nat → Nat → List (List Int)
  | 0, _ => []
  | k + 1, q => [totT (q : Int) W tn, oreT (q : Int) W tn v] :: rowsFrom W tn v k (q + 1)
theorem rowsFrom_length (W tn v : List Int) : ∀ k q, (rowsFrom W tn v k q).length = k
  | 0, _ => rfl
  | k + 1, q => by simp [rowsFrom, rowsFrom_length W tn v k (q + 1)]
theorem rowsFrom_two (W tn v : List Int) : ∀ k q, ∀ r ∈ rowsFrom W tn v k q, r.length = 2
  | 0, _, r, h => by simp [rowsFrom] at h
  | k + 1, q, r, h => by
    simp only [rowsFrom] at h
    rcases List.mem_cons.1 h with rfl | h
    · rfl
    · exact rowsFrom_two W tn v k (q + 1) r h
theorem rowsFrom_get (W tn v : List Int) : ∀ k q i, i < k → (rowsFrom W tn v k q)[i]? = some [totT ((q + i : Nat) : Int) W tn, oreT ((q + i : Nat) : Int) W tn v]
  | 0, q, i, h => by omega
  | k + 1, q, 0, h => by simp [rowsFrom]
  | k + 1, q, i + 1, h => by
    simp only [rowsFrom, List.getElem?_cons_succ]
    rw [rowsFrom_get W tn v k (q + 1) i (by omega), show q + 1 + i = q + (i + 1) by omega]
def limAll (a b : Int) : List (List Int) → Bool
  | [] => true
  | r :: rs => decide (rd r 0 ≤ a ∧ rd r 1 ≤ b) && limAll a b rs
def feas (m : List (List Int)) (t v : List Int) (a b c : Int) (W : List Int) : Bool := keepAll W W m && limAll a b (rowsFrom W t v c.toNat 0)
theorem arcs_get : ∀ {ls : List (List Int)} {i j : Nat} {r : List Int}, arcsOk ls i = true → ls[j]? = some r → rise ((i + j : Nat) : Int) (-1) r = true
  | [], i, j, r, h, hj => by simp at hj
  | l :: ls, i, 0, r, h, hj => by
    simp only [arcsOk, Bool.and_eq_true] at h
    simp at hj
    subst hj
    exact h.1
  | l :: ls, i, j + 1, r, h, hj => by
    simp only [arcsOk, Bool.and_eq_true] at h
    rw [List.getElem?_cons_succ] at hj
    have := arcs_get h.2 hj
    rw [show i + (j + 1) = i + 1 + j by omega]
    exact this
theorem rise_short {n : Int} : ∀ {p : Int} {ys : List Int}, rise n p ys = true → p < n → (ys.length : Int) ≤ n - 1 - p
  | p, [], _, hp => by simp; omega
  | p, y :: ys, h, hp => by
    simp only [rise, Bool.and_eq_true, decide_eq_true_eq] at h
    have := rise_short h.2 (by omega)
    simp only [List.length_cons]; push_cast; omega
structure JobFacts (m : List (List Int)) (t v : List Int) (a b c d e : Int) : Prop where
  n : 1 ≤ m.length ∧ m.length ≤ 120
  tl : t.length = m.length
  vl : v.length = m.length
  tb : allIn 0 10000 t = true
  arcs : arcsOk m 0 = true
  lims : limOk a b c d e = true
theorem job_facts {m : List (List Int)} {t v : List Int} {a b c d e : Int} (h : jobOk m t v a b c d e = true) : JobFacts m t v a b c d e := by
  simp only [jobOk, Bool.and_eq_true, decide_eq_true_eq] at h
  exact ⟨h.1.2, h.2.1.1, h.2.1.2, h.2.2.1, h.1.1, h.2.2.2.2⟩
theorem JobFacts.c6 {m : List (List Int)} {t v : List Int} {a b c d e : Int} (h : JobFacts m t v a b c d e) : 1 ≤ c ∧ c ≤ 6 := by
  have := h.lims
  simp only [limOk, decide_eq_true_eq] at this
  omega
theorem JobFacts.row {m : List (List Int)} {t v : List Int} {a b c d e : Int} (h : JobFacts m t v a b c d e) {i : Nat} {r : List Int} (hr : m[i]? = some r) : (∀ k ∈ r, 0 ≤ k ∧ k < (m.length : Int)) ∧ r.length ≤ 120 := by
  have g := arcs_get h.arcs hr
  have hi := (List.getElem?_eq_some_iff.1 hr).1
  rw [Nat.zero_add] at g
  have s := rise_short g (by omega)
  have n := h.n
  refine ⟨fun k hk => ?_, by omega⟩
  have := rise_mem g k hk
  omega
theorem plan_facts {m : List (List Int)} {c P : Int} {W : List Int} (h : planOk m c P W = true) : P = c ∧ W.length = m.length ∧ allIn (-1) (c - 1) W = true := by
  simp only [planOk, Bool.and_eq_true, decide_eq_true_eq] at h
  exact ⟨h.1.1, h.1.2, h.2⟩
-- needs: plan_model
theorem spec_plGood_ev (m : List (List Int)) (t v : List Int) (a b c d e : Int) (P : Int) (W : List Int) (hc : 1 ≤ c ∧ c ≤ 6) (hW : W.length ≤ 1048576) : Ev (fun k => spec_plGood.f k m t v a b c d e P W) (planOk m c P W) :=
  Ev.of1 (spec_l1All_ev W (-1) (c - 1) (by omega)) fun k hk => by
    simp only [spec_plGood.f, planOk]
    rw [wrap_id (x := c - 1) (by omega) (by omega), hk, Option.bind_some]
    by_cases g1 : P = c
    · rw [if_pos g1]
      by_cases g2 : W.length = m.length
      · rw [if_pos (by omega), decide_eq_true (⟨g1, g2⟩ : P = c ∧ W.length = m.length), Bool.true_and]
      · rw [if_neg (by omega), decide_eq_false (fun q : P = c ∧ W.length = m.length => g2 q.2), Bool.false_and]
    · rw [if_neg g1, decide_eq_false (fun q : P = c ∧ W.length = m.length => g1 q.1), Bool.false_and]
-- needs: plan_model
theorem spec_plFaults_l1 (m : List (List Int)) (t v : List Int) (a b c d e : Int) (P : Int) (W : List Int) (i : Int) (w : Int) (r : List Int) (hr : r.length ≤ 120) : ∀ (ks : List Int) (j : Nat) (acc : List (List Int)), r.drop j = ks → (∀ k ∈ ks, 0 ≤ k ∧ k < (W.length : Int)) → acc.length + ks.length ≤ 1000000 →
    ∃ acc' : List (List Int), (acc'.length = 0 ↔ acc.length = 0 ∧ keepRow W w ks = true) ∧ acc'.length ≤ acc.length + ks.length ∧ ∀ q, Ev (fun k => spec_plFaults.l0 k acc' W (W.length : Int) (wrap64 (i + 1)) m t v a b c d e P W) q → Ev (fun k => spec_plFaults.l1 k acc i w W (W.length : Int) i r (r.length : Int) (j : Int) m t v a b c d e P W) q
  | [], j, acc, h, hk, hb => by
      have g := drop_nil h
      refine ⟨acc, by simp [keepRow], by omega, fun q hq => Ev.next1 hq fun k hk => ?_⟩
      simp only [spec_plFaults.l1]
      rw [if_neg (by omega)]
      exact hk
  | y :: ks, j, acc, h, hk, hb => by
      obtain ⟨g1, g2, g3⟩ := drop_cons h
      have hy := hk y (by simp)
      simp only [List.length_cons] at hb
      by_cases o : 0 ≤ rd W y ∧ rd W y ≤ w
      · obtain ⟨acc', a1, a2, a3⟩ := spec_plFaults_l1 m t v a b c d e P W i w r hr ks (j + 1) acc g3 (fun k h => hk k (by simp [h])) (by omega)
        refine ⟨acc', by rw [a1]; simp [keepRow, o], by simp only [List.length_cons]; omega, fun q hq => Ev.next1 (a3 q hq) fun k hk' => ?_⟩
        simp only [spec_plFaults.l1, spec_l1In_eq, Option.bind_some]
        rw [if_pos (by omega), if_pos (by omega), if_pos (by omega), rd_drop h, if_pos hy.1, if_pos hy.2, if_pos (by simpa using o), wrap_succ g1 (by omega)]
        exact hk'
      · obtain ⟨acc', a1, a2, a3⟩ := spec_plFaults_l1 m t v a b c d e P W i w r hr ks (j + 1) (acc ++ [[i, y]]) g3 (fun k h => hk k (by simp [h])) (by simp; omega)
        refine ⟨acc', by rw [a1]; simp [keepRow, o], by simp only [List.length_cons]; simp at a2; omega, fun q hq => Ev.next1 (a3 q hq) fun k hk' => ?_⟩
        simp only [spec_plFaults.l1, spec_l1In_eq, Option.bind_some]
        rw [if_pos (by omega), if_pos (by omega), if_pos (by omega), rd_drop h, if_pos hy.1, if_pos hy.2, if_neg (by simpa using o), if_pos (by omega), wrap_succ g1 (by omega)]
        exact hk'
theorem spec_plFaults_l0 (m : List (List Int)) (t v : List Int) (a b c d e : Int) (P : Int) (W : List Int) (hj : JobFacts m t v a b c d e) (hW : W.length = m.length) : ∀ (ws : List Int) (rs : List (List Int)) (i : Nat) (acc : List (List Int)), W.drop i = ws → m.drop i = rs → acc.length ≤ 120 * i →
    ∃ r : List (List Int), Ev (fun k => spec_plFaults.l0 k acc W (W.length : Int) (i : Int) m t v a b c d e P W) r ∧ (r.length = 0 ↔ acc.length = 0 ∧ keepAll W ws rs = true)
  | [], rs, i, acc, h, h', hb => by
      have g := drop_nil h
      refine ⟨acc, Ev.next0 fun k => ?_, by simp [keepAll]⟩
      simp only [spec_plFaults.l0]
      rw [if_neg (by omega)]
  | w :: ws, rs, i, acc, h, h', hb => by
      obtain ⟨g1, g2, g3⟩ := drop_cons h
      obtain ⟨r, rs', e⟩ : ∃ r rs', rs = r :: rs' := by
        cases rs with
        | nil => have := drop_nil h'; omega
        | cons r rs' => exact ⟨r, rs', rfl⟩
      subst e
      obtain ⟨f1, f2, f3⟩ := drop_cons h'
      have hn := hj.n
      have rf := hj.row f2
      have er : rd_L1 m (i : Int) = r := getD_drop h'
      by_cases c0 : w < 0
      · obtain ⟨q, q1, q2⟩ := spec_plFaults_l0 m t v a b c d e P W hj hW ws rs' (i + 1) acc g3 f3 (by omega)
        refine ⟨q, Ev.next1 q1 fun k hk => ?_, by rw [q2]; simp [keepAll, keepOne, c0]⟩
        simp only [spec_plFaults.l0]
        rw [if_pos (by omega), if_pos (by omega), if_pos (by omega), rd_drop h, if_pos c0, wrap_succ g1 (by omega)]
        exact hk
      · obtain ⟨acc', a1, a2, a3⟩ := spec_plFaults_l1 m t v a b c d e P W (i : Int) w r rf.2 r 0 acc rfl (fun k hk => by have := rf.1 k hk; omega) (by omega)
        obtain ⟨q, q1, q2⟩ := spec_plFaults_l0 m t v a b c d e P W hj hW ws rs' (i + 1) acc' g3 f3 (by omega)
        rw [← wrap_succ g1 (by omega)] at q1
        refine ⟨q, Ev.next1 (a3 q q1) fun k hk => ?_, by rw [q2, a1]; simp [keepAll, keepOne, c0, and_assoc]⟩
        simp only [spec_plFaults.l0]
        rw [if_pos (by omega), if_pos (by omega), if_pos (by omega), rd_drop h, if_neg c0, if_pos (by omega), er]
        exact hk
theorem spec_plFaults_ev (m : List (List Int)) (t v : List Int) (a b c d e : Int) (P : Int) (W : List Int) (hj : JobFacts m t v a b c d e) (hW : W.length = m.length) : ∃ r : List (List Int), Ev (fun k => spec_plFaults.f k m t v a b c d e P W) r ∧ (r.length = 0 ↔ keepAll W W m = true) := by
  obtain ⟨r, r1, r2⟩ := spec_plFaults_l0 m t v a b c d e P W hj hW W m 0 [] rfl rfl (by simp)
  refine ⟨r, Ev.of1 r1 fun k hk => ?_, by rw [r2]; simp⟩
  simp only [spec_plFaults.f]
  exact hk
-- needs: plan_model
theorem spec_plTonnes_l1 (m : List (List Int)) (t v : List Int) (a b c d e : Int) (P : Int) (W : List Int) (q : Int) (acc : List (List Int)) (hacc : acc.length ≤ 1000) (hW : W.length ≤ 120) (ht : t.length = W.length) (hv : v.length = W.length) (r : List (List Int)) : ∀ (ws ns xs : List Int) (j : Nat) (s o : Int), W.drop j = ws → t.drop j = ns → v.drop j = xs → (∀ n ∈ ns, 0 ≤ n ∧ n ≤ 10000) → (0 ≤ s ∧ s ≤ 10000 * (j : Int)) → (0 ≤ o ∧ o ≤ 10000 * (j : Int)) →
    Ev (fun k => spec_plTonnes.l0 k (acc ++ [[s + totT q ws ns, o + oreT q ws ns xs]]) (wrap64 (q + 1)) m t v a b c d e P W) r → Ev (fun k => spec_plTonnes.l1 k acc q s o W (W.length : Int) (j : Int) m t v a b c d e P W) r
  | [], ns, xs, j, s, o, h, h', h'', hn, hs, ho, hr => by
      have g := drop_nil h
      refine Ev.next1 hr fun k hk => ?_
      simp only [totT, oreT, Int.add_zero] at hk
      simp only [spec_plTonnes.l1]
      rw [if_neg (by omega), if_pos (by omega)]
      exact hk
  | w :: ws, [], xs, j, s, o, h, h', h'', hn, hs, ho, hr => by
      have g1 := (drop_cons h).1
      have g2 := drop_nil h'
      omega
  | w :: ws, n :: ns, [], j, s, o, h, h', h'', hn, hs, ho, hr => by
      have g1 := (drop_cons h).1
      have g2 := drop_nil h''
      omega
  | w :: ws, n :: ns, x :: xs, j, s, o, h, h', h'', hn, hs, ho, hr => by
      obtain ⟨g1, g2, g3⟩ := drop_cons h
      obtain ⟨f1, f2, f3⟩ := drop_cons h'
      obtain ⟨e1, e2, e3⟩ := drop_cons h''
      have bn := hn n (by simp)
      simp only [totT, oreT] at hr
      by_cases c0 : w = q
      · by_cases c1 : x > 0
        · rw [if_pos c0, if_pos c0, if_pos c1, ← Int.add_assoc, ← Int.add_assoc] at hr
          refine Ev.next1 (spec_plTonnes_l1 m t v a b c d e P W q acc hacc hW ht hv r ws ns xs (j + 1) (s + n) (o + n) g3 f3 e3 (fun z hz => hn z (by simp [hz])) (by push_cast; omega) (by push_cast; omega) hr) fun k hk => ?_
          simp only [spec_plTonnes.l1]
          rw [if_pos (by omega), if_pos (by omega), if_pos (by omega), rd_drop h, if_pos c0, if_pos (by omega), if_pos (by omega), rd_drop h'', if_pos c1, rd_drop h', wrap_id (x := s + n) (by omega) (by omega), wrap_id (x := o + n) (by omega) (by omega), wrap_succ g1 (by omega)]
          exact hk
        · rw [if_pos c0, if_pos c0, if_neg c1, ← Int.add_assoc, Int.zero_add] at hr
          refine Ev.next1 (spec_plTonnes_l1 m t v a b c d e P W q acc hacc hW ht hv r ws ns xs (j + 1) (s + n) o g3 f3 e3 (fun z hz => hn z (by simp [hz])) (by push_cast; omega) (by push_cast; omega) hr) fun k hk => ?_
          simp only [spec_plTonnes.l1]
          rw [if_pos (by omega), if_pos (by omega), if_pos (by omega), rd_drop h, if_pos c0, if_pos (by omega), if_pos (by omega), rd_drop h'', if_neg c1, rd_drop h', wrap_id (x := s + n) (by omega) (by omega), wrap_succ g1 (by omega)]
          exact hk
      · rw [if_neg c0, if_neg c0, Int.zero_add, Int.zero_add] at hr
        refine Ev.next1 (spec_plTonnes_l1 m t v a b c d e P W q acc hacc hW ht hv r ws ns xs (j + 1) s o g3 f3 e3 (fun z hz => hn z (by simp [hz])) (by push_cast; omega) (by push_cast; omega) hr) fun k hk => ?_
        simp only [spec_plTonnes.l1]
        rw [if_pos (by omega), if_pos (by omega), if_pos (by omega), rd_drop h, if_neg c0, wrap_succ g1 (by omega)]
        exact hk
theorem spec_plTonnes_l0 (m : List (List Int)) (t v : List Int) (a b c d e : Int) (P : Int) (W : List Int) (hj : JobFacts m t v a b c d e) (hW : W.length = m.length) : ∀ (n q : Nat) (acc : List (List Int)), ((q + n : Nat) : Int) = c → acc.length = q → Ev (fun k => spec_plTonnes.l0 k acc (q : Int) m t v a b c d e P W) (acc ++ rowsFrom W t v n q)
  | 0, q, acc, h, ha => Ev.next0 fun k => by
      simp only [spec_plTonnes.l0, rowsFrom, List.append_nil]
      rw [if_neg (by omega)]
  | n + 1, q, acc, h, ha => by
      have c6 := hj.c6
      have hn := hj.n
      have ih := spec_plTonnes_l0 m t v a b c d e P W hj hW n (q + 1) (acc ++ [[totT (q : Int) W t, oreT (q : Int) W t v]]) (by omega) (by simp; omega)
      have i1 := spec_plTonnes_l1 m t v a b c d e P W (q : Int) acc (by omega) (by omega) (by have := hj.tl; omega) (by have := hj.vl; omega) (acc ++ rowsFrom W t v (n + 1) q) W t v 0 0 0 rfl rfl rfl (fun z hz => allIn_mem hj.tb z hz) (by omega) (by omega)
        (by
          rw [Int.zero_add, Int.zero_add, wrap_id (x := (q : Int) + 1) (by omega) (by omega), show (q : Int) + 1 = ((q + 1 : Nat) : Int) by omega]
          simp only [rowsFrom]
          rw [List.append_assoc] at ih
          exact ih)
      refine Ev.next1 i1 fun k hk => ?_
      simp only [spec_plTonnes.l0]
      rw [if_pos (by omega)]
      exact hk
theorem spec_plTonnes_ev (m : List (List Int)) (t v : List Int) (a b c d e : Int) (P : Int) (W : List Int) (hj : JobFacts m t v a b c d e) (hW : W.length = m.length) : Ev (fun k => spec_plTonnes.f k m t v a b c d e P W) (rowsFrom W t v c.toNat 0) := by
  have c6 := hj.c6
  refine Ev.of1 (spec_plTonnes_l0 m t v a b c d e P W hj hW c.toNat 0 [] (by omega) rfl) fun k hk => ?_
  simp only [spec_plTonnes.f]
  exact hk
-- needs: plan_model
theorem spec_plOver_l0 (m : List (List Int)) (t v : List Int) (a b c d e : Int) (rows : List (List Int)) (hn : rows.length ≤ 1000) : ∀ (rs : List (List Int)) (i : Nat) (acc : List Int), rows.drop i = rs → (∀ r ∈ rs, r.length = 2) → acc.length ≤ i →
    ∃ q : List Int, Ev (fun k => spec_plOver.l0 k acc rows (rows.length : Int) (i : Int) m t v a b c d e) q ∧ (q.length = 0 ↔ acc.length = 0 ∧ limAll a b rs = true)
  | [], i, acc, h, h2, ha => by
      have g := drop_nil h
      refine ⟨acc, Ev.next0 fun k => ?_, by simp [limAll]⟩
      simp only [spec_plOver.l0]
      rw [if_neg (by omega)]
  | r :: rs, i, acc, h, h2, ha => by
      obtain ⟨g1, g2, g3⟩ := drop_cons h
      have rl := h2 r (by simp)
      have er : rd_L1 rows (i : Int) = r := getD_drop h
      by_cases c0 : rd r 0 > a
      · obtain ⟨q, q1, q2⟩ := spec_plOver_l0 m t v a b c d e rows hn rs (i + 1) (acc ++ [(i : Int)]) g3 (fun z hz => h2 z (by simp [hz])) (by simp; omega)
        refine ⟨q, Ev.next1 q1 fun k hk => ?_, by rw [q2]; simp [limAll]; omega⟩
        simp only [spec_plOver.l0, er]
        rw [if_pos (by omega), if_pos (by omega), if_pos (by omega), if_pos (by omega), if_pos c0, if_pos (by omega), wrap_succ g1 (by omega)]
        exact hk
      by_cases c1 : rd r 1 > b
      · obtain ⟨q, q1, q2⟩ := spec_plOver_l0 m t v a b c d e rows hn rs (i + 1) (acc ++ [(i : Int)]) g3 (fun z hz => h2 z (by simp [hz])) (by simp; omega)
        refine ⟨q, Ev.next1 q1 fun k hk => ?_, by rw [q2]; simp [limAll]; omega⟩
        simp only [spec_plOver.l0, er]
        rw [if_pos (by omega), if_pos (by omega), if_pos (by omega), if_pos (by omega), if_neg c0, if_pos (by omega), if_pos c1, if_pos (by omega), wrap_succ g1 (by omega)]
        exact hk
      · obtain ⟨q, q1, q2⟩ := spec_plOver_l0 m t v a b c d e rows hn rs (i + 1) acc g3 (fun z hz => h2 z (by simp [hz])) (by omega)
        refine ⟨q, Ev.next1 q1 fun k hk => ?_, by rw [q2]; simp only [limAll]; rw [decide_eq_true (⟨by omega, by omega⟩ : rd r 0 ≤ a ∧ rd r 1 ≤ b), Bool.true_and]⟩
        simp only [spec_plOver.l0, er]
        rw [if_pos (by omega), if_pos (by omega), if_pos (by omega), if_pos (by omega), if_neg c0, if_pos (by omega), if_neg c1, wrap_succ g1 (by omega)]
        exact hk
theorem spec_plOver_ev (m : List (List Int)) (t v : List Int) (a b c d e : Int) (P : Int) (W : List Int) (hj : JobFacts m t v a b c d e) (hW : W.length = m.length) : ∃ q : List Int, Ev (fun k => spec_plOver.f k m t v a b c d e P W) q ∧ (q.length = 0 ↔ limAll a b (rowsFrom W t v c.toNat 0) = true) := by
  have c6 := hj.c6
  obtain ⟨q, q1, q2⟩ := spec_plOver_l0 m t v a b c d e (rowsFrom W t v c.toNat 0) (by rw [rowsFrom_length]; omega) (rowsFrom W t v c.toNat 0) 0 [] rfl (rowsFrom_two W t v _ _) (by simp)
  refine ⟨q, Ev.of2 (spec_plTonnes_ev m t v a b c d e P W hj hW) q1 fun k h1 h2 => ?_, by rw [q2]; simp⟩
  simp only [spec_plOver.f, h1, Option.bind_some]
  exact h2
-- needs: plan_model
theorem spec_plFeasible_ev (m : List (List Int)) (t v : List Int) (a b c d e : Int) (P : Int) (W : List Int) (hj : JobFacts m t v a b c d e) (hW : W.length = m.length) : Ev (fun k => spec_plFeasible.f k m t v a b c d e P W) (feas m t v a b c W) := by
  obtain ⟨r, r1, r2⟩ := spec_plFaults_ev m t v a b c d e P W hj hW
  obtain ⟨q, q1, q2⟩ := spec_plOver_ev m t v a b c d e P W hj hW
  refine Ev.of2 r1 q1 fun k h1 h2 => ?_
  simp only [spec_plFeasible.f, h1, h2, Option.bind_some, feas]
  by_cases c0 : keepAll W W m = true
  · rw [if_pos (by have := r2.2 c0; omega), c0, Bool.true_and]
    by_cases c1 : limAll a b (rowsFrom W t v c.toNat 0) = true
    · rw [c1, q2.2 c1]; rfl
    · have : ¬ q.length = 0 := fun z => c1 (q2.1 z)
      rw [show limAll a b (rowsFrom W t v c.toNat 0) = false by simpa using c1, beq_eq_false_iff_ne.2 (by omega)]
  · have : ¬ r.length = 0 := fun z => c0 (r2.1 z)
    rw [if_neg (by omega), show keepAll W W m = false by simpa using c0, Bool.false_and]
theorem spec_acGrade_eq (a : Int) : spec_acGrade.f a = some (decide (0 ≤ a ∧ a ≤ 1001)) := by
  simp only [spec_acGrade.f, spec_l1In_eq, Option.bind_some]
/-- The lists of a model that is good: their lengths and bounds. -/
theorem model_ok {x y z : Int} {t g r : List Int} (h : modelOk x y z t g r = true) : gridOk x y z = true ∧ ((t.length : Int) = x * y * z ∧ (g.length : Int) = x * y * z ∧ (r.length : Int) = x * y * z) ∧ allIn 0 10000 t = true ∧ allIn 0 1000 g = true ∧ allIn 0 4 r = true := by
  simp only [modelOk, Bool.and_eq_true, decide_eq_true_eq] at h
  exact ⟨h.1.1, h.1.2, h.2.1, h.2.2.1, h.2.2.2⟩
theorem rd_in {lo hi : Int} {l : List Int} (h : allIn lo hi l = true) {i : Int} (h0 : 0 ≤ i) (h1 : i < (l.length : Int)) : lo ≤ rd l i ∧ rd l i ≤ hi := by
  have hg : l[i.toNat]? = some (l[i.toNat]'(by omega)) := List.getElem?_eq_getElem (by omega)
  have h5 := rd_get hg
  rw [show ((i.toNat : Nat) : Int) = i by omega] at h5
  rw [h5]; exact allIn_get h hg
theorem metal_bd {t g : List Int} (ht : allIn 0 10000 t = true) (hg : allIn 0 1000 g = true) {i : Int} (h0 : 0 ≤ i) (h1 : i < (t.length : Int)) (h2 : i < (g.length : Int)) : (0 ≤ rd t i ∧ rd t i ≤ 10000) ∧ 0 ≤ rd t i * rd g i ∧ rd t i * rd g i ≤ 10000000 := by
  have a := rd_in ht h0 h1; have b := rd_in hg h0 h2
  exact ⟨a, Int.mul_nonneg a.1 b.1, Int.mul_le_mul (a := rd t i) (b := rd g i) (c := 10000) (d := 1000) a.2 b.2 b.1 (by omega)⟩
theorem spec_moMetal_eq (x y z : Int) (t g r : List Int) (i : Int) (ht : allIn 0 10000 t = true) (hg : allIn 0 1000 g = true) (h0 : 0 ≤ i) (h1 : i < (t.length : Int)) (h2 : i < (g.length : Int)) : spec_moMetal.f x y z t g r i = some (rd t i * rd g i) := by
  have hb := metal_bd ht hg h0 h1 h2
  simp only [spec_moMetal.f]
  rw [if_pos h0, if_pos h1, if_pos h2, wrap_id (by omega) (by omega)]
def toOf (v g : List Int) (i q : Int) : Int := if rd v i > 0 then 0 else (if rd g i ≥ q then 1 else 2)
theorem spec_acTo_eq (x y z : Int) (p g r : List Int) (m : List (List Int)) (t v : List Int) (a b c d e : Int) (i q : Int) (h0 : 0 ≤ i) (h1 : i < (v.length : Int)) (h2 : i < (g.length : Int)) : spec_acTo.f x y z p g r m t v a b c d e i q = some (toOf v g i q) := by
  simp only [spec_acTo.f, toOf]
  rw [if_pos h0, if_pos h1, if_pos h2]
  by_cases c1 : rd v i > 0
  · rw [if_pos c1, if_pos c1]
  · rw [if_neg c1, if_neg c1]
    by_cases c2 : rd g i ≥ q
    · rw [if_pos c2, if_pos c2]
    · rw [if_neg c2, if_neg c2]
-- needs: plan_model spec_moMetal spec_acTo
def destStep (S : List Int) (q n k : Int) : List Int :=
  (S.set (wrap64 (2 * q)).toNat (wrap64 (rd S (wrap64 (2 * q)) + n))).set (wrap64 (wrap64 (2 * q) + 1)).toNat (wrap64 (rd (S.set (wrap64 (2 * q)).toNat (wrap64 (rd S (wrap64 (2 * q)) + n))) (wrap64 (wrap64 (2 * q) + 1)) + k))
theorem destStep_length (S : List Int) (q n k : Int) : (destStep S q n k).length = S.length := by simp [destStep]
/-- The sums of the three destinations, from block i on. -/
def destS (v g p : List Int) (q : Int) : List Int → Nat → List Int → List Int
  | [], _, S => S
  | w :: ws, i, S => destS v g p q ws (i + 1) (if w < 0 then S else destStep S (toOf v g (i : Int) q) (rd p (i : Int)) (rd p (i : Int) * rd g (i : Int)))
theorem destS_length (v g p : List Int) (q : Int) : ∀ (ws : List Int) (i : Nat) (S : List Int), (destS v g p q ws i S).length = S.length
  | [], _, _ => rfl
  | w :: ws, i, S => by
    simp only [destS]
    rw [destS_length v g p q ws (i + 1)]
    split
    · rfl
    · exact destStep_length _ _ _ _
theorem toOf_bd (v g : List Int) (i q : Int) : 0 ≤ toOf v g i q ∧ toOf v g i q ≤ 2 := by
  unfold toOf
  split
  · omega
  · split <;> omega
def destSums (x y z : Int) (p g r : List Int) (m : List (List Int)) (t v : List Int) (a b c d e : Int) (P : Int) (W : List Int) (q : Int) : List Int × Bool :=
  if (modelOk x y z p g r = true ∧ jobOk m t v a b c d e = true ∧ p = t) ∧ planOk m c P W = true ∧ feas m t v a b c W = true ∧ (0 ≤ q ∧ q ≤ 1001) then (destS v g p q W 0 (List.replicate 6 0), true) else ([], false)
theorem destSums_len (x y z : Int) (p g r : List Int) (m : List (List Int)) (t v : List Int) (a b c d e : Int) (P : Int) (W : List Int) (q : Int) : (destSums x y z p g r m t v a b c d e P W q).1.length ≤ 6 := by
  unfold destSums
  split
  · rw [destS_length]; simp
  · simp
-- needs: plan_model dest_model
theorem spec_acAsked_ev (x y z : Int) (p g r : List Int) (m : List (List Int)) (t v : List Int) (a b c d e : Int) (P : Int) (W : List Int) (q : Int) (hp : p.length ≤ 1048576) (hg : g.length ≤ 1048576) (hr : r.length ≤ 1048576) (hm : m.length ≤ 1048576) (hl : ∀ y ∈ m, y.length ≤ 1048576) (ht : t.length ≤ 1048576) (hv : v.length ≤ 1048576) (hW : W.length ≤ 1048576) :
    Ev (fun k => spec_acAsked.f k x y z p g r m t v a b c d e P W q) (decide ((modelOk x y z p g r = true ∧ jobOk m t v a b c d e = true ∧ p = t) ∧ planOk m c P W = true ∧ feas m t v a b c W = true ∧ (0 ≤ q ∧ q ≤ 1001))) := by
  have h0 := spec_acBoth_ev x y z p g r m t v a b c d e hp hg hr hm hl ht hv
  by_cases g1 : modelOk x y z p g r = true ∧ jobOk m t v a b c d e = true ∧ p = t
  · have e1 : (modelOk x y z p g r && (jobOk m t v a b c d e && decide (p = t))) = true := by rw [g1.1, g1.2.1, decide_eq_true g1.2.2]; rfl
    rw [e1] at h0
    have jf := job_facts g1.2.1
    have h1 := spec_plGood_ev m t v a b c d e P W jf.c6 hW
    by_cases g2 : planOk m c P W = true
    · rw [g2] at h1
      have pf := plan_facts g2
      refine (ev_and h0 <| ev_and h1 <| ev_one (spec_plFeasible_ev m t v a b c d e P W jf pf.2.1)).ev fun k ⟨a0, a1, a2⟩ => ?_
      simp only [spec_acAsked.f, a0, a1, a2, spec_acGrade_eq, Option.bind_some]
      rw [if_pos trivial, if_pos trivial]
      by_cases g3 : feas m t v a b c W = true
      · rw [if_pos g3]; congr 1; rw [decide_eq_decide]; exact ⟨fun z => ⟨g1, g2, g3, z⟩, fun z => z.2.2.2⟩
      · rw [if_neg g3]; congr 1; symm; rw [decide_eq_false_iff_not]; exact fun z => g3 z.2.2.1
    · have e2 : planOk m c P W = false := by simpa using g2
      rw [e2] at h1
      refine (ev_and h0 <| ev_one h1).ev fun k ⟨a0, a1⟩ => ?_
      simp only [spec_acAsked.f, a0, a1, Option.bind_some]
      rw [if_pos trivial, if_neg (by simp)]; congr 1; symm; rw [decide_eq_false_iff_not]; exact fun z => g2 z.2.1
  · have e1 : (modelOk x y z p g r && (jobOk m t v a b c d e && decide (p = t))) = false := by
      cases q1 : modelOk x y z p g r <;> cases q2 : jobOk m t v a b c d e <;> simp
      exact fun z => g1 ⟨q1, q2, z⟩
    rw [e1] at h0
    refine (ev_one h0).ev fun k a0 => ?_
    simp only [spec_acAsked.f, a0, Option.bind_some]
    rw [if_neg (by simp)]; congr 1; symm; rw [decide_eq_false_iff_not]; exact fun z => g1 z.1
-- needs: dest_model
theorem spec_acSums_l0 (x y z : Int) (p g r : List Int) (m : List (List Int)) (t v : List Int) (a b c d e : Int) (q : Int) (W : List Int) (hn : W.length ≤ 1048576) (hp : p.length = W.length) (hg : g.length = W.length) (hv : v.length = W.length) (bp : allIn 0 10000 p = true) (bg : allIn 0 1000 g = true) : ∀ (ws : List Int) (i : Nat) (S : List Int), W.drop i = ws → S.length = 6 →
    Ev (fun k => spec_acSums.l0 k q (-1) S W (W.length : Int) (i : Int) x y z p g r m t v a b c d e) (destS v g p q ws i S)
  | [], i, S, h, hS => Ev.next0 fun k => by
      have g0 := drop_nil h
      simp only [spec_acSums.l0, destS]
      rw [if_neg (by omega)]
  | w :: ws, i, S, h, hS => by
      obtain ⟨g1, g2, g3⟩ := drop_cons h
      by_cases c0 : w < 0
      · have ih := spec_acSums_l0 x y z p g r m t v a b c d e q W hn hp hg hv bp bg ws (i + 1) S g3 hS
        have j1 : Ev (fun k => spec_acSums.j1 k q (-1) S (i : Int) W (W.length : Int) (i : Int) true x y z p g r m t v a b c d e) (destS v g p q (w :: ws) i S) := Ev.next1 ih fun k hk => by
          simp only [spec_acSums.j1, destS]
          rw [if_pos trivial, if_pos c0, wrap_succ g1 (by omega)]
          exact hk
        refine Ev.next1 j1 fun k hk => ?_
        simp only [spec_acSums.l0]
        rw [if_pos (by omega), if_pos (by omega), if_pos (by omega), rd_drop h, if_pos c0]
        exact hk
      · have tb := toOf_bd v g (i : Int) q
        have w2 : wrap64 (2 * toOf v g (i : Int) q) = 2 * toOf v g (i : Int) q := wrap_id (by omega) (by omega)
        have w3 : wrap64 (wrap64 (2 * toOf v g (i : Int) q) + 1) = 2 * toOf v g (i : Int) q + 1 := by rw [w2]; exact wrap_id (by omega) (by omega)
        have ih := spec_acSums_l0 x y z p g r m t v a b c d e q W hn hp hg hv bp bg ws (i + 1) (destStep S (toOf v g (i : Int) q) (rd p (i : Int)) (rd p (i : Int) * rd g (i : Int))) g3 (by rw [destStep_length]; exact hS)
        have j1 : Ev (fun k => spec_acSums.j1 k q (-1) S (i : Int) W (W.length : Int) (i : Int) false x y z p g r m t v a b c d e) (destS v g p q (w :: ws) i S) := Ev.next1 ih fun k hk => by
          have e1 := spec_acTo_eq x y z p g r m t v a b c d e (i : Int) q (by omega) (by omega) (by omega)
          have e2 := spec_moMetal_eq x y z p g r (i : Int) bp bg (by omega) (by omega) (by omega)
          simp only [spec_acSums.j1, destS, e1, e2, Option.bind_some]
          rw [if_neg (by simp), if_neg c0, if_pos (by omega), if_pos (by omega), if_pos (by omega), if_pos (by omega), if_pos (by omega), if_pos (by omega), wrap_succ g1 (by omega)]
          exact hk
        refine Ev.next1 j1 fun k hk => ?_
        simp only [spec_acSums.l0]
        rw [if_pos (by omega), if_pos (by omega), if_pos (by omega), rd_drop h, if_neg c0, if_neg (by omega)]
        exact hk
theorem spec_acSums_ev (x y z : Int) (p g r : List Int) (m : List (List Int)) (t v : List Int) (a b c d e : Int) (P : Int) (W : List Int) (q : Int) (hn : W.length ≤ 1048576) (hp : p.length = W.length) (hg : g.length = W.length) (hv : v.length = W.length) (bp : allIn 0 10000 p = true) (bg : allIn 0 1000 g = true) : Ev (fun k => spec_acSums.f k x y z p g r m t v a b c d e P W q (-1)) (destS v g p q W 0 (List.replicate 6 0)) :=
  Ev.of1 (spec_acSums_l0 x y z p g r m t v a b c d e q W hn hp hg hv bp bg W 0 (List.replicate 6 0) rfl (by simp)) fun k hk => by
    simp only [spec_acSums.f]
    rw [if_pos (by decide)]
    exact hk
-- needs: dest_model
theorem dest_lens {x y z : Int} {p g r : List Int} {m : List (List Int)} {t v : List Int} {a b c d e P : Int} {W : List Int} (h : (modelOk x y z p g r = true ∧ jobOk m t v a b c d e = true ∧ p = t) ∧ planOk m c P W = true) : p.length = W.length ∧ g.length = W.length ∧ v.length = W.length ∧ allIn 0 10000 p = true ∧ allIn 0 1000 g = true := by
  obtain ⟨_, l1, b1, b2, _⟩ := model_ok h.1.1
  have jf := job_facts h.1.2.1
  have pf := plan_facts h.2
  have e : p.length = t.length := by rw [h.1.2.2]
  have := jf.tl
  have := jf.vl
  exact ⟨by omega, by omega, by omega, b1, b2⟩
-- needs: dest_lens
theorem spec_DestinationSums_ev (x y z : Int) (p g r : List Int) (m : List (List Int)) (t v : List Int) (a b c d e : Int) (P : Int) (W : List Int) (q : Int) (hp : p.length ≤ 1048576) (hg : g.length ≤ 1048576) (hr : r.length ≤ 1048576) (hm : m.length ≤ 1048576) (hl : ∀ y ∈ m, y.length ≤ 1048576) (ht : t.length ≤ 1048576) (hv : v.length ≤ 1048576) (hW : W.length ≤ 1048576) : Ev (fun k => spec_DestinationSums.f k x y z p g r m t v a b c d e P W q) (destSums x y z p g r m t v a b c d e P W q) := by
  have h0 := spec_acAsked_ev x y z p g r m t v a b c d e P W q hp hg hr hm hl ht hv hW
  unfold destSums
  by_cases h : (modelOk x y z p g r = true ∧ jobOk m t v a b c d e = true ∧ p = t) ∧ planOk m c P W = true ∧ feas m t v a b c W = true ∧ (0 ≤ q ∧ q ≤ 1001)
  · rw [decide_eq_true h] at h0
    obtain ⟨l1, l2, l3, b1, b2⟩ := dest_lens ⟨h.1, h.2.1⟩
    refine (ev_and h0 <| ev_one (spec_acSums_ev x y z p g r m t v a b c d e P W q hW l1 l2 l3 b1 b2)).ev fun k ⟨a0, a1⟩ => ?_
    simp only [spec_DestinationSums.f, a0, a1, Option.bind_some]
    rw [if_pos trivial, if_pos h]
  · rw [decide_eq_false h] at h0
    refine (ev_one h0).ev fun k a0 => ?_
    simp only [spec_DestinationSums.f, a0, Option.bind_some]
    rw [if_neg (by simp), if_neg h]
theorem laws_toIntS_l0 (l : List Int) (hn : l.length ≤ 9223372036854775807) : ∀ (ys : List Int) (i : Nat) (x : List Int), l.drop i = ys → x.length = l.length → x.take i = l.take i → Ev (fun k => laws_toIntS.l0 k l x i) l
  | [], i, x, h, hl, ht => Ev.next0 fun k => by
      have h0 := drop_nil h
      have h1 : l.length = l.length := by simp
      simp only [laws_toIntS.l0]
      rw [if_neg (by omega), copy_end hl ht (by omega)]
  | y :: ys, i, x, h, hl, ht => by
      obtain ⟨h1, h2, h3⟩ := drop_cons h
      have hm : l.length = l.length := by simp
      have hg : l[i]? = some y := by simp [h2]
      obtain ⟨c1, c2⟩ := copy_step hg hl ht
      refine Ev.next1 (laws_toIntS_l0 l hn ys (i + 1) (x.set i y) h3 c1 c2) fun k hk => ?_
      have e := rd_drop h
      simp only [laws_toIntS.l0, e, Option.bind_some]
      rw [if_pos (by omega), if_pos (by omega), if_pos (by omega), wrap_succ h1 hn, toNat_cast]
      exact hk
theorem laws_toIntS_ev (l : List Int) (hn : l.length ≤ 35184372088832) : Ev (fun k => laws_toIntS.f k l) l :=
  Ev.of1 (laws_toIntS_l0 l (by omega) l 0 (List.replicate ((l.length : Int)).toNat 0) rfl (by simp) rfl) fun k hk => by
    simp only [laws_toIntS.f]
    rw [if_pos (by omega), if_pos (by omega)]
    exact hk
theorem laws_toModel_ev (x y z : Int) (t g r : List Int) (ht : t.length ≤ 1048576) (hg : g.length ≤ 1048576) (hr : r.length ≤ 1048576) : Ev (fun k => laws_toModel.f k x y z t g r) (x, y, z, t, g, r) :=
  (ev_and (laws_toIntS_ev t (by omega)) <| ev_and (laws_toIntS_ev g (by omega)) <| ev_one (laws_toIntS_ev r (by omega))).ev fun k ⟨h1, h2, h3⟩ => by
    simp only [laws_toModel.f, laws_toGrid.f, h1, h2, h3, Option.bind_some]
theorem laws_toIntSS_l0 (l : List (List Int)) (hn : l.length ≤ 1048576) (hl : ∀ y ∈ l, y.length ≤ 1048576) : ∀ (ys : List (List Int)) (i : Nat) (x : List (List Int)), l.drop i = ys → x.length = l.length → x.take i = l.take i → Ev (fun k => laws_toIntSS.l0 k l x i) l
  | [], i, x, h, hl', ht => Ev.next0 fun k => by
      have h0 := drop_nil h
      simp only [laws_toIntSS.l0]
      rw [if_neg (by omega), copy_end hl' ht (by omega)]
  | y :: ys, i, x, h, hl', ht => by
      obtain ⟨h1, h2, h3⟩ := drop_cons h
      obtain ⟨c1, c2⟩ := copy_step h2 hl' ht
      have hy := hl y (List.mem_of_getElem? h2)
      refine Ev.next2 (laws_toIntSS_l0 l hn hl ys (i + 1) (x.set i y) h3 c1 c2) (laws_toIntS_ev y (by omega)) fun k hk hk2 => ?_
      have e : rd_L1 l i = y := getD_drop h
      simp only [laws_toIntSS.l0, e, hk2, Option.bind_some]
      rw [if_pos (by omega), if_pos (by omega), if_pos (by omega), wrap_succ h1 (by omega), toNat_cast]
      exact hk
theorem laws_toIntSS_ev (l : List (List Int)) (hn : l.length ≤ 1048576) (hl : ∀ y ∈ l, y.length ≤ 1048576) : Ev (fun k => laws_toIntSS.f k l) l :=
  Ev.of1 (laws_toIntSS_l0 l hn hl l 0 (List.replicate ((l.length : Int)).toNat []) rfl (by simp) rfl) fun k hk => by
    simp only [laws_toIntSS.f]
    rw [if_pos (by omega), if_pos (by omega)]
    exact hk
theorem laws_toJob_ev (m : List (List Int)) (t v : List Int) (a b c d e : Int) (hm : m.length ≤ 1048576) (hl : ∀ y ∈ m, y.length ≤ 1048576) (ht : t.length ≤ 1048576) (hv : v.length ≤ 1048576) : Ev (fun k => laws_toJob.f k m t v a b c d e) (m, t, v, a, b, c, d, e) :=
  (ev_and (laws_toIntSS_ev m hm hl) <| ev_and (laws_toIntS_ev t (by omega)) <| ev_one (laws_toIntS_ev v (by omega))).ev fun k ⟨h1, h2, h3⟩ => by
    simp only [laws_toJob.f, laws_toLimits.f, h1, h2, h3, Option.bind_some]
theorem laws_toPlan_ev (P : Int) (W : List Int) (hW : W.length ≤ 1048576) : Ev (fun k => laws_toPlan.f k P W) (P, W) :=
  Ev.of1 (laws_toIntS_ev W (by omega)) fun k hk => by
    simp only [laws_toPlan.f, hk, Option.bind_some]
theorem impl_IsGrid_eq (x y z : Int) : impl_IsGrid.f x y z = some (gridOk x y z) := by
  simp only [impl_IsGrid.f, gridOk]
  by_cases hx : 1 ≤ x ∧ x ≤ 8
  · rw [if_pos (by omega), if_pos (by omega)]
    by_cases hy : 1 ≤ y ∧ y ≤ 6
    · rw [if_pos (by omega), if_pos (by omega)]
      by_cases hz : 1 ≤ z ∧ z ≤ 5
      · rw [if_pos (by omega), if_pos (by omega), grid_wrap hx hy hz]; congr 1; simp [hx, hy, hz]
      · have e : decide (1 ≤ x ∧ x ≤ 8 ∧ 1 ≤ y ∧ y ≤ 6 ∧ 1 ≤ z ∧ z ≤ 5 ∧ x * y * z ≤ 120) = false := by simp; omega
        rw [e]; split
        · rw [if_neg (by omega)]
        · rfl
    · have e : decide (1 ≤ x ∧ x ≤ 8 ∧ 1 ≤ y ∧ y ≤ 6 ∧ 1 ≤ z ∧ z ≤ 5 ∧ x * y * z ≤ 120) = false := by simp; omega
      rw [e]; split
      · rw [if_neg (by omega)]
      · rfl
  · have e : decide (1 ≤ x ∧ x ≤ 8 ∧ 1 ≤ y ∧ y ≤ 6 ∧ 1 ≤ z ∧ z ≤ 5 ∧ x * y * z ≤ 120) = false := by simp; omega
    rw [e]; split
    · rw [if_neg (by omega)]
    · rfl
theorem impl_blocksOf_eq (x y z : Int) (h : gridOk x y z = true) : impl_blocksOf.f x y z = some (x * y * z) := by
  have hb := grid_ok h
  simp only [impl_blocksOf.f]
  rw [grid_wrap hb.1 hb.2.1 hb.2.2.1]
theorem impl_IsModel_l0 (x y z : Int) (t g r : List Int) (n : Nat) (hn : n ≤ 1048576) (ht : t.length = n) (hg : g.length = n) (hr : r.length = n) : ∀ (ts gs rs : List Int) (i : Nat), t.drop i = ts → g.drop i = gs → r.drop i = rs → Ev (fun k => impl_IsModel.l0 k (n : Int) i x y z t g r) (allIn 0 10000 ts && (allIn 0 1000 gs && allIn 0 4 rs))
  | [], gs, rs, i, h, hg', hr' => Ev.next0 fun k => by
      have h0 := drop_nil h
      have e1 : gs = [] := by rw [← hg']; exact List.drop_of_length_le (by omega)
      have e2 : rs = [] := by rw [← hr']; exact List.drop_of_length_le (by omega)
      subst e1 e2
      simp only [impl_IsModel.l0, allIn]
      rw [if_neg (by omega)]; rfl
  | a :: ts, [], rs, i, h, hg', hr' => by have h1 := (drop_cons h).1; have h2 := drop_nil hg'; omega
  | a :: ts, b :: gs, [], i, h, hg', hr' => by have h1 := (drop_cons h).1; have h2 := drop_nil hr'; omega
  | a :: ts, b :: gs, c :: rs, i, h, hg', hr' => by
      obtain ⟨h1, h2, h3⟩ := drop_cons h
      obtain ⟨g1, g2, g3⟩ := drop_cons hg'
      obtain ⟨r1, r2, r3⟩ := drop_cons hr'
      have ea := rd_drop h
      have eb := rd_drop hg'
      have ec := rd_drop hr'
      refine Ev.next1 (impl_IsModel_l0 x y z t g r n hn ht hg hr ts gs rs (i + 1) h3 g3 r3) fun k hk => ?_
      simp only [impl_IsModel.l0, ea, eb, ec]
      rw [if_pos (by omega), if_pos (by omega), if_pos (by omega)]
      by_cases ka : 0 ≤ a ∧ a ≤ 10000
      · rw [if_neg (by omega), if_neg (by omega), if_pos (by omega)]
        by_cases kb : 0 ≤ b ∧ b ≤ 1000
        · rw [if_neg (by omega), if_neg (by omega), if_pos (by omega)]
          by_cases kc : 0 ≤ c ∧ c ≤ 4
          · rw [if_neg (by omega), if_neg (by omega), wrap_succ h1 (by omega), hk]
            simp [allIn, ka, kb, kc]
          · have e : (allIn 0 10000 (a :: ts) && (allIn 0 1000 (b :: gs) && allIn 0 4 (c :: rs))) = false := by simp [allIn, kc]
            rw [e]; split
            · rfl
            · rw [if_pos (by omega)]
        · have e : (allIn 0 10000 (a :: ts) && (allIn 0 1000 (b :: gs) && allIn 0 4 (c :: rs))) = false := by simp [allIn, kb]
          rw [e]; split
          · rfl
          · rw [if_pos (by omega)]
      · have e : (allIn 0 10000 (a :: ts) && (allIn 0 1000 (b :: gs) && allIn 0 4 (c :: rs))) = false := by simp [allIn, ka]
        rw [e]; split
        · rfl
        · rw [if_pos (by omega)]
theorem impl_IsModel_ev (x y z : Int) (t g r : List Int) (ht : t.length ≤ 1048576) (hg : g.length ≤ 1048576) (hr : r.length ≤ 1048576) : Ev (fun k => impl_IsModel.f k x y z t g r) (modelOk x y z t g r) := by
  by_cases h : gridOk x y z = true
  · have no : ∀ n : Int, Ev (fun k => impl_IsModel.j0 k n true x y z t g r) false := fun n => Ev.next0 fun k => by simp [impl_IsModel.j0]
    by_cases e : (t.length : Int) = x * y * z ∧ (g.length : Int) = x * y * z ∧ (r.length : Int) = x * y * z
    · obtain ⟨e1, e2, e3⟩ := e
      have h1 : Ev (fun k => impl_IsModel.j0 k (x * y * z) false x y z t g r) (allIn 0 10000 t && (allIn 0 1000 g && allIn 0 4 r)) := by
        refine Ev.next1 (impl_IsModel_l0 x y z t g r t.length ht rfl (by omega) (by omega) t g r 0 rfl rfl rfl) fun k hk => ?_
        simp only [impl_IsModel.j0]
        rw [if_neg (by simp), ← e1]; exact hk
      refine Ev.of1 h1 fun k hk => ?_
      simp only [impl_IsModel.f, impl_IsGrid_eq, Option.bind_some, impl_blocksOf_eq x y z h]
      rw [if_pos h, if_pos e1, if_pos e2, show ((r.length : Int) != x * y * z) = false by simp [e3], hk]
      simp [modelOk, h, e1, e2, e3]
    · refine Ev.of1 (no (x * y * z)) fun k hk => ?_
      have em : modelOk x y z t g r = false := by
        simp only [modelOk, decide_eq_false e, Bool.and_false, Bool.false_and]
      simp only [impl_IsModel.f, impl_IsGrid_eq, Option.bind_some, impl_blocksOf_eq x y z h]
      rw [if_pos h, em]
      by_cases e1 : (t.length : Int) = x * y * z
      · rw [if_pos e1]
        by_cases e2 : (g.length : Int) = x * y * z
        · rw [if_pos e2, show ((r.length : Int) != x * y * z) = true by
            have e3 : ¬ (r.length : Int) = x * y * z := fun e3 => e ⟨e1, e2, e3⟩
            simpa using e3, hk]
        · rw [if_neg e2, hk]
      · rw [if_neg e1, hk]
  · refine Ev.all fun k => ?_
    simp only [impl_IsModel.f, impl_IsGrid_eq, Option.bind_some]
    rw [if_neg h]; simp [modelOk, h]
theorem impl_areBlocks_l0 (n : Int) (l : List Int) (hn : l.length ≤ 9223372036854775807) : ∀ (ys : List Int) (i : Nat) (p : Int), l.drop i = ys → (i = 0 ∧ p = -1 ∨ 0 < i ∧ l[i - 1]? = some p) → Ev (fun k => impl_areBlocks.l0 k l n l (l.length : Int) i) (rise n p ys)
  | [], i, p, h, hp => Ev.next0 fun k => by
      have h0 := drop_nil h
      simp only [impl_areBlocks.l0, rise]
      rw [if_neg (by omega)]
  | y :: ys, i, p, h, hp => by
      obtain ⟨h1, h2, h3⟩ := drop_cons h
      refine Ev.next1 (impl_areBlocks_l0 n l hn ys (i + 1) y h3 (.inr ⟨by omega, by simpa using h2⟩)) fun k hk => ?_
      have e := rd_drop h
      simp only [impl_areBlocks.l0, e, rise]
      rw [if_pos (by omega), if_pos (by omega), if_pos (by omega), wrap_succ h1 hn]
      by_cases hy : 0 ≤ y ∧ y < n
      · rw [if_neg (by omega), if_neg (by omega)]
        rcases hp with ⟨rfl, rfl⟩ | ⟨hi, hp⟩
        · rw [if_neg (by omega), hk]; simp; omega
        · have e2 : rd l ((i : Int) - 1) = p := by
            rw [show (i : Int) - 1 = ((i - 1 : Nat) : Int) by omega]; exact rd_get hp
          rw [if_pos (by omega), wrap_id (by omega) (by omega), if_pos (by omega), if_pos (by omega), e2]
          by_cases hq : p < y
          · rw [if_neg (by omega), hk]; simp [hy, hq]
          · rw [if_pos (by omega)]; simp [hq]
      · have e3 : (decide (0 ≤ y ∧ y < n ∧ p < y) && rise n y ys) = false := by simp; omega
        rw [e3]; split
        · rfl
        · rw [if_pos (by omega)]
theorem impl_areBlocks_ev (n : Int) (l : List Int) (hn : l.length ≤ 9223372036854775807) : Ev (fun k => impl_areBlocks.f k l n) (rise n (-1) l) :=
  Ev.of1 (impl_areBlocks_l0 n l hn l 0 (-1) rfl (.inl ⟨rfl, rfl⟩)) fun k hk => by simp only [impl_areBlocks.f]; exact hk
-- needs: spec_clArcs
theorem impl_AreArcs_l0 (m : List (List Int)) (hn : m.length ≤ 1048576) (hl : ∀ y ∈ m, y.length ≤ 1048576) : ∀ (ls : List (List Int)) (i : Nat), m.drop i = ls → Ev (fun k => impl_AreArcs.l0 k m (m.length : Int) i) (arcsOk ls i)
  | [], i, h => Ev.next0 fun k => by
      have h0 := drop_nil h
      simp only [impl_AreArcs.l0, arcsOk]
      rw [if_neg (by omega)]
  | l :: ls, i, h => by
      obtain ⟨h1, h2, h3⟩ := drop_cons h
      have e : rd_L1 m (i : Int) = l := getD_drop h
      have hy := hl l (List.mem_of_getElem? h2)
      refine Ev.next2 (impl_areBlocks_ev (i : Int) l (by omega)) (impl_AreArcs_l0 m hn hl ls (i + 1) h3) fun k k1 k2 => ?_
      simp only [impl_AreArcs.l0, e]
      rw [if_pos (by omega), if_pos (by omega), if_pos (by omega), k1, Option.bind_some, wrap_succ h1 (by omega)]
      by_cases hr : rise (i : Int) (-1) l = true
      · rw [if_pos hr, k2]; simp [arcsOk, hr]
      · rw [if_neg hr]; simp [arcsOk, hr]
theorem impl_AreArcs_ev (m : List (List Int)) (hn : m.length ≤ 1048576) (hl : ∀ y ∈ m, y.length ≤ 1048576) : Ev (fun k => impl_AreArcs.f k m) (arcsOk m 0 && decide (1 ≤ m.length ∧ m.length ≤ 120)) := by
  have no : Ev (fun k => impl_AreArcs.j0 k m true) false := Ev.next0 fun k => by simp [impl_AreArcs.j0]
  by_cases h1 : m.length < 1
  · refine Ev.of1 no fun k hk => ?_
    simp only [impl_AreArcs.f]
    rw [if_pos (by omega), hk, decide_eq_false (by omega), Bool.and_false]
  · by_cases h2 : m.length > 120
    · refine Ev.of1 no fun k hk => ?_
      simp only [impl_AreArcs.f]
      rw [if_neg (by omega), show decide ((m.length : Int) > 120) = true by simp; omega, hk, decide_eq_false (by omega), Bool.and_false]
    · have yes : Ev (fun k => impl_AreArcs.j0 k m false) (arcsOk m 0) := Ev.next1 (impl_AreArcs_l0 m hn hl m 0 rfl) fun k hk => by
        simp only [impl_AreArcs.j0, Bool.false_eq_true, if_false]; exact hk
      refine Ev.of1 yes fun k hk => ?_
      simp only [impl_AreArcs.f]
      rw [if_neg (by omega), show decide ((m.length : Int) > 120) = false by simp; omega, hk, decide_eq_true (by omega), Bool.and_true]
theorem impl_goodValues_l0 (l : List Int) (hn : l.length ≤ 9223372036854775807) : ∀ (ys : List Int) (i : Nat), l.drop i = ys → Ev (fun k => impl_goodValues.l0 k l (l.length : Int) i) (allIn (-1000000) 1000000 ys)
  | [], i, h => Ev.next0 fun k => by
      have h0 := drop_nil h
      simp only [impl_goodValues.l0, allIn]
      rw [if_neg (by omega)]
  | y :: ys, i, h => by
      obtain ⟨h1, h2, h3⟩ := drop_cons h
      refine Ev.next1 (impl_goodValues_l0 l hn ys (i + 1) h3) fun k hk => ?_
      have e := rd_drop h
      simp only [impl_goodValues.l0, e]
      rw [if_pos (by omega), if_pos (by omega), if_pos (by omega), wrap_succ h1 hn]
      by_cases hy : -1000000 ≤ y
      · rw [if_neg (by omega)]
        by_cases hz : y ≤ 1000000
        · rw [if_neg (by omega), hk]; simp [allIn, hy, hz]
        · rw [if_pos (by omega)]; simp [allIn, hz]
      · rw [if_pos (by omega)]; simp [allIn, hy]
theorem impl_goodValues_ev (l : List Int) (hn : l.length ≤ 9223372036854775807) : Ev (fun k => impl_goodValues.f k l) (decide (1 ≤ l.length ∧ l.length ≤ 120) && allIn (-1000000) 1000000 l) := by
  by_cases h : 1 ≤ l.length ∧ l.length ≤ 120
  · have h1 : Ev (fun k => impl_goodValues.j0 k l false) (allIn (-1000000) 1000000 l) := Ev.next1 (impl_goodValues_l0 l hn l 0 rfl) fun k hk => by
      simp only [impl_goodValues.j0]; rw [if_neg (by simp)]; exact hk
    refine Ev.of1 h1 fun k hk => ?_
    have e : decide ((l.length : Int) > 120) = false := by simp; omega
    simp only [impl_goodValues.f]
    rw [if_neg (by omega), e, hk]; simp [h]
  · have h1 : Ev (fun k => impl_goodValues.j0 k l true) false := Ev.next0 fun k => by simp [impl_goodValues.j0]
    refine Ev.of1 h1 fun k hk => ?_
    simp only [impl_goodValues.f]
    by_cases h2 : l.length < 1
    · rw [if_pos (by omega), hk]; simp; omega
    · have e : decide ((l.length : Int) > 120) = true := by simp; omega
      rw [if_neg (by omega), e, hk]; simp; omega
theorem impl_areValued_ev (m : List (List Int)) (v : List Int) (hn : m.length ≤ 1048576) (hl : ∀ y ∈ m, y.length ≤ 1048576) (hv : v.length ≤ 1048576) : Ev (fun k => impl_areValued.f k m v) ((arcsOk m 0 && decide (1 ≤ m.length ∧ m.length ≤ 120)) && (decide (v.length = m.length) && allIn (-1000000) 1000000 v)) := by
  refine (ev_and (impl_AreArcs_ev m hn hl) <| ev_one (impl_goodValues_ev v (by omega))).ev fun k ⟨h1, h2⟩ => ?_
  simp only [impl_areValued.f, h1, h2, Option.bind_some]
  by_cases g1 : (arcsOk m 0 && decide (1 ≤ m.length ∧ m.length ≤ 120)) = true
  · rw [if_pos g1, g1, Bool.true_and]
    have g2 : 1 ≤ m.length ∧ m.length ≤ 120 := by simp only [Bool.and_eq_true, decide_eq_true_eq] at g1; exact g1.2
    by_cases g3 : v.length = m.length
    · rw [decide_eq_true g3, decide_eq_true (show 1 ≤ v.length ∧ v.length ≤ 120 by omega), Bool.true_and]
      cases allIn (-1000000) 1000000 v
      · rfl
      · rw [if_pos rfl]; congr 1; simp [g3]
    · rw [decide_eq_false g3, Bool.false_and]
      by_cases g4 : (decide (1 ≤ v.length ∧ v.length ≤ 120) && allIn (-1000000) 1000000 v) = true
      · rw [if_pos g4]; congr 1; simp; omega
      · rw [if_neg g4]
  · rw [if_neg g1, show (arcsOk m 0 && decide (1 ≤ m.length ∧ m.length ≤ 120)) = false by simpa using g1]; rfl
-- needs: spec_plJob
theorem impl_IsJob_l0 (m : List (List Int)) (t v : List Int) (a b c d e : Int) (ht : t.length ≤ 1048576) : ∀ (us : List Int) (i : Nat), t.drop i = us → Ev (fun k => impl_IsJob.l0 k t (t.length : Int) i m t v a b c d e) (allIn 0 10000 us && limOk a b c d e)
  | [], i, h => Ev.next0 fun k => by
      have h0 := drop_nil h
      simp only [impl_IsJob.l0, allIn, Bool.true_and, limOk]
      rw [if_neg (by omega)]
      repeat' split
      all_goals first | (congr 1; rw [decide_eq_decide]; omega) | (congr 1; symm; simp; omega)
  | u :: us, i, h => by
      obtain ⟨h1, h2, h3⟩ := drop_cons h
      have e1 := rd_drop h
      refine Ev.next1 (impl_IsJob_l0 m t v a b c d e ht us (i + 1) h3) fun k hk => ?_
      simp only [impl_IsJob.l0, e1, allIn]
      rw [if_pos (by omega), if_pos (by omega), if_pos (by omega), wrap_succ h1 (by omega)]
      by_cases g : 0 ≤ u ∧ u ≤ 10000
      · rw [if_neg (by omega), if_neg (by omega), hk]; simp [g]
      · rw [decide_eq_false g]
        by_cases g0 : u < 0
        · rw [if_pos g0]; rfl
        · rw [if_neg g0, if_pos (by omega)]; rfl
theorem impl_IsJob_no (m : List (List Int)) (t v : List Int) (a b c d e : Int) : Ev (fun k => impl_IsJob.j0 k true m t v a b c d e) false := Ev.next0 fun k => by simp [impl_IsJob.j0]
theorem impl_IsJob_ev (m : List (List Int)) (t v : List Int) (a b c d e : Int) (hm : m.length ≤ 1048576) (hl : ∀ y ∈ m, y.length ≤ 1048576) (ht : t.length ≤ 1048576) (hv : v.length ≤ 1048576) : Ev (fun k => impl_IsJob.f k m t v a b c d e) (jobOk m t v a b c d e) := by
  have yes : Ev (fun k => impl_IsJob.j0 k false m t v a b c d e) (allIn 0 10000 t && limOk a b c d e) := Ev.next1 (impl_IsJob_l0 m t v a b c d e ht t 0 rfl) fun k hk => by
    simp only [impl_IsJob.j0, Bool.false_eq_true, if_false]; exact hk
  refine (ev_and (impl_areValued_ev m v hm hl hv) <| ev_and yes <| ev_one (impl_IsJob_no m t v a b c d e)).ev fun k ⟨h1, h2, h3⟩ => ?_
  simp only [impl_IsJob.f, h1, Option.bind_some, jobOk]
  by_cases g1 : (arcsOk m 0 && decide (1 ≤ m.length ∧ m.length ≤ 120)) = true
  · rw [g1, Bool.true_and, Bool.true_and]
    by_cases g2 : v.length = m.length
    · rw [decide_eq_true g2, Bool.true_and]
      by_cases g3 : t.length = m.length
      · rw [show ((t.length : Int) != (m.length : Int)) = false by simp [g3], decide_eq_true (⟨g3, g2⟩ : t.length = m.length ∧ v.length = m.length), Bool.true_and]
        cases g4 : allIn (-1000000) 1000000 v
        · rw [if_neg (by simp), h3]; simp
        · rw [if_pos (by simp), h2, Bool.true_and]
      · rw [show ((t.length : Int) != (m.length : Int)) = true by simp; omega, decide_eq_false (fun q : t.length = m.length ∧ v.length = m.length => g3 q.1)]
        split <;> (rw [h3]; rfl)
    · rw [decide_eq_false g2, decide_eq_false (fun q : t.length = m.length ∧ v.length = m.length => g2 q.2), if_neg (by simp), h3]; rfl
  · rw [show (arcsOk m 0 && decide (1 ≤ m.length ∧ m.length ≤ 120)) = false by simpa using g1, if_neg (by simp), h3]; rfl
theorem slices_Equal_int_int_l0 (p q : List Int) (hn : p.length ≤ 1048576) (hl : p.length = q.length) : ∀ (us ws : List Int) (j : Nat), p.drop j = us → q.drop j = ws → Ev (fun k => slices_Equal_int_int.l0 k p q (p.length : Int) j) (decide (us = ws))
  | [], [], j, h, h' => Ev.next0 fun k => by
      have h0 := drop_nil h
      simp only [slices_Equal_int_int.l0]
      rw [if_neg (by omega)]; rfl
  | [], w :: ws, j, h, h' => by
      have h0 := drop_nil h; have h1 := (drop_cons h').1; omega
  | u :: us, [], j, h, h' => by
      have h0 := drop_nil h'; have h1 := (drop_cons h).1; omega
  | u :: us, w :: ws, j, h, h' => by
      obtain ⟨h1, h2, h3⟩ := drop_cons h
      obtain ⟨g1, g2, g3⟩ := drop_cons h'
      have e := rd_drop h
      have e' := rd_drop h'
      refine Ev.next1 (slices_Equal_int_int_l0 p q hn hl us ws (j + 1) h3 g3) fun k hk => ?_
      simp only [slices_Equal_int_int.l0, e, e']
      rw [if_pos (by omega), if_pos (by omega), if_pos (by omega), if_pos (by omega), wrap_succ h1 (by omega)]
      by_cases g : u = w
      · rw [if_pos g, hk]; congr 1; simp [g]
      · rw [if_neg g]; congr 1; simp [g]
theorem slices_Equal_int_int_ev (p q : List Int) (hn : p.length ≤ 1048576) : Ev (fun k => slices_Equal_int_int.f k p q) (decide (p = q)) := by
  by_cases hl : p.length = q.length
  · refine Ev.of1 (slices_Equal_int_int_l0 p q hn hl p q 0 rfl rfl) fun k hk => ?_
    simp only [slices_Equal_int_int.f]
    rw [if_pos (by omega)]; exact hk
  · refine Ev.all fun k => ?_
    simp only [slices_Equal_int_int.f]
    rw [if_neg (by omega)]; congr 1; symm; simp; intro h; exact hl (by rw [h])
theorem impl_areOneMine_ev (x y z : Int) (p g r : List Int) (m : List (List Int)) (t v : List Int) (a b c d e : Int) (hp : p.length ≤ 1048576) (hg : g.length ≤ 1048576) (hr : r.length ≤ 1048576) (hm : m.length ≤ 1048576) (hl : ∀ y ∈ m, y.length ≤ 1048576) (ht : t.length ≤ 1048576) (hv : v.length ≤ 1048576) : Ev (fun k => impl_areOneMine.f k x y z p g r m t v a b c d e) (modelOk x y z p g r && (jobOk m t v a b c d e && decide (p = t))) :=
  (ev_and (impl_IsModel_ev x y z p g r hp hg hr) <| ev_and (impl_IsJob_ev m t v a b c d e hm hl ht hv) <| ev_one (slices_Equal_int_int_ev p t hp)).ev fun k ⟨h1, h2, h3⟩ => by
    simp only [impl_areOneMine.f, h1, h2, h3, Option.bind_some]
    by_cases g1 : modelOk x y z p g r = true
    · rw [if_pos g1, g1]
      by_cases g2 : jobOk m t v a b c d e = true
      · rw [if_pos g2, g2]; rfl
      · rw [if_neg g2]; simp [g2]
    · rw [if_neg g1]; simp [g1]
-- needs: plan_model
theorem impl_isPlan_l0 (m : List (List Int)) (t v : List Int) (a b c d e : Int) (W : List Int) (hn : W.length ≤ 1048576) : ∀ (ws : List Int) (i : Nat), W.drop i = ws → Ev (fun k => impl_isPlan.l0 k W (W.length : Int) (i : Int) m t v a b c d e) (allIn (-1) (c - 1) ws)
  | [], i, h => Ev.next0 fun k => by
      have g := drop_nil h
      simp only [impl_isPlan.l0, allIn]
      rw [if_neg (by omega)]
  | w :: ws, i, h => by
      obtain ⟨g1, g2, g3⟩ := drop_cons h
      refine Ev.next1 (impl_isPlan_l0 m t v a b c d e W hn ws (i + 1) g3) fun k hk => ?_
      simp only [impl_isPlan.l0, allIn]
      rw [if_pos (by omega), if_pos (by omega), if_pos (by omega), rd_drop h, wrap_succ g1 (by omega)]
      by_cases c0 : w < -1
      · rw [if_pos c0, decide_eq_false (fun q : -1 ≤ w ∧ w ≤ c - 1 => by omega), Bool.false_and]
      · rw [if_neg c0]
        by_cases c1 : w ≥ c
        · rw [if_pos c1, decide_eq_false (fun q : -1 ≤ w ∧ w ≤ c - 1 => by omega), Bool.false_and]
        · rw [if_neg c1, decide_eq_true (⟨by omega, by omega⟩ : -1 ≤ w ∧ w ≤ c - 1), Bool.true_and]
          exact hk
theorem impl_isPlan_ev (m : List (List Int)) (t v : List Int) (a b c d e : Int) (P : Int) (W : List Int) (hW : W.length ≤ 1048576) : Ev (fun k => impl_isPlan.f k m t v a b c d e P W) (planOk m c P W) := by
  have no : Ev (fun k => impl_isPlan.j0 k true m t v a b c d e P W) false := Ev.next0 fun k => by simp [impl_isPlan.j0]
  have yes : Ev (fun k => impl_isPlan.j0 k false m t v a b c d e P W) (allIn (-1) (c - 1) W) := Ev.next1 (impl_isPlan_l0 m t v a b c d e W hW W 0 rfl) fun k hk => by
    simp only [impl_isPlan.j0]
    rw [if_neg (by simp)]
    exact hk
  refine (ev_and no <| ev_one yes).ev fun k ⟨h1, h2⟩ => ?_
  simp only [impl_isPlan.f, planOk]
  by_cases g1 : P = c
  · rw [if_pos g1]
    by_cases g2 : W.length = m.length
    · rw [decide_eq_true (⟨g1, g2⟩ : P = c ∧ W.length = m.length), Bool.true_and, g2, bne_self_eq_false]
      exact h2
    · rw [decide_eq_false (fun q : P = c ∧ W.length = m.length => g2 q.2), Bool.false_and, show ((W.length : Int) != (m.length : Int)) = true by simp; omega]
      exact h1
  · rw [if_neg g1, decide_eq_false (fun q : P = c ∧ W.length = m.length => g1 q.1), Bool.false_and]
    exact h1
-- needs: plan_model
theorem impl_keepsOrder_l0 (P : Int) (W : List Int) (i : Nat) (w : Int) (hi : W[i]? = some w) (r : List Int) (hr : r.length ≤ 120) : ∀ (ks : List Int) (j : Nat), r.drop j = ks → (∀ k ∈ ks, 0 ≤ k ∧ k < (W.length : Int)) → Ev (fun k => impl_keepsOrder.l0 k (i : Int) r (r.length : Int) (j : Int) P W) (keepOne W w ks)
  | [], j, h, hk => Ev.next0 fun k => by
      have g := drop_nil h
      simp only [impl_keepsOrder.l0, keepOne, keepRow, Bool.or_true]
      rw [if_neg (by omega)]
  | y :: ks, j, h, hk => by
      obtain ⟨g1, g2, g3⟩ := drop_cons h
      have il := (List.getElem?_eq_some_iff.1 hi).1
      have hy := hk y (by simp)
      refine Ev.next1 (impl_keepsOrder_l0 P W i w hi r hr ks (j + 1) g3 (fun z hz => hk z (by simp [hz]))) fun k hk' => ?_
      simp only [impl_keepsOrder.l0]
      rw [if_pos (by omega), if_pos (by omega), if_pos (by omega), if_pos (by omega), if_pos (by omega), rd_get hi, rd_drop h, wrap_succ g1 (by omega)]
      by_cases c0 : w < 0
      · rw [if_neg (by omega)]
        refine hk'.trans ?_
        simp [keepOne, c0]
      · rw [if_pos (by omega), if_pos hy.1, if_pos hy.2]
        have e : keepOne W w (y :: ks) = (decide (0 ≤ rd W y ∧ rd W y ≤ w) && keepOne W w ks) := by simp [keepOne, keepRow, c0]
        rw [e]
        by_cases c1 : rd W y < 0
        · rw [if_pos c1, decide_eq_false (fun q : 0 ≤ rd W y ∧ rd W y ≤ w => by omega), Bool.false_and]
        · rw [if_neg c1]
          by_cases c2 : rd W y > w
          · rw [if_pos c2, decide_eq_false (fun q : 0 ≤ rd W y ∧ rd W y ≤ w => by omega), Bool.false_and]
          · rw [if_neg c2, decide_eq_true (⟨by omega, by omega⟩ : 0 ≤ rd W y ∧ rd W y ≤ w), Bool.true_and]
            exact hk'
theorem impl_keepsOrder_ev (m : List (List Int)) (t v : List Int) (a b c d e : Int) (P : Int) (W : List Int) (hj : JobFacts m t v a b c d e) (hW : W.length = m.length) (i : Nat) (w : Int) (r : List Int) (hi : W[i]? = some w) (hr : m[i]? = some r) : Ev (fun k => impl_keepsOrder.f k m t v a b c d e P W (i : Int)) (keepOne W w r) := by
  have rf := hj.row hr
  have ml := (List.getElem?_eq_some_iff.1 hr).1
  have er : rd_L1 m (i : Int) = r := getD_get hr
  refine Ev.of1 (impl_keepsOrder_l0 P W i w hi r rf.2 r 0 rfl (fun k hk => by have := rf.1 k hk; omega)) fun k hk => ?_
  simp only [impl_keepsOrder.f, er]
  rw [if_pos (by omega), if_pos (by omega)]
  exact hk
-- needs: plan_model
theorem set_mid {α : Type} (x y : α) : ∀ (i d : Nat), (List.replicate i x ++ List.replicate (d + 1) y).set i x = List.replicate (i + 1) x ++ List.replicate d y
  | 0, d => by simp [List.replicate_succ]
  | i + 1, d => by
    have ih := set_mid x y i d
    rw [List.replicate_succ, List.cons_append, List.set_cons_succ, ih]
    simp [List.replicate_succ]
theorem impl_tonnesIn_l0 (m : List (List Int)) (t v : List Int) (a b c d e : Int) (P : Int) (W : List Int) (n : Nat) (hn : n ≤ 6) (r : List (List Int)) (hr : Ev (fun k => impl_tonnesIn.l1 k (List.replicate n [0, 0]) W (W.length : Int) 0 m t v a b c d e) r) : ∀ (k i : Nat), i + k = n → Ev (fun q => impl_tonnesIn.l0 q (List.replicate i [0, 0] ++ List.replicate k []) (n : Int) (i : Int) m t v a b c d e P W) r
  | 0, i, h => by
      obtain rfl : i = n := by omega
      refine Ev.next1 hr fun k hk => ?_
      simp only [impl_tonnesIn.l0, List.replicate_zero, List.append_nil]
      rw [if_neg (by omega)]
      exact hk
  | k + 1, i, h => by
      refine Ev.next1 (impl_tonnesIn_l0 m t v a b c d e P W n hn r hr k (i + 1) (by omega)) fun q hq => ?_
      have e : List.replicate 2 (0 : Int) = [0, 0] := rfl
      simp only [impl_tonnesIn.l0]
      rw [if_pos (by omega), if_pos (by omega), if_pos (by omega), if_pos (by simp; omega), e, show ((i : Int)).toNat = i by omega, set_mid, wrap_id (x := (i : Int) + 1) (by omega) (by omega), show (i : Int) + 1 = ((i + 1 : Nat) : Int) by omega]
      exact hq
theorem impl_tonnesIn_l1 (m : List (List Int)) (t v : List Int) (a b c d e : Int) (W : List Int) (hW : W.length ≤ 120) (ht : t.length = W.length) (hv : v.length = W.length) (n : Nat) : ∀ (ws ns xs : List Int) (j : Nat) (x : List (List Int)) (p o : Nat → Int), W.drop j = ws → t.drop j = ns → v.drop j = xs → (∀ w ∈ ws, w < (n : Int)) → (∀ z ∈ ns, 0 ≤ z ∧ z ≤ 10000) → x.length = n → (∀ q, q < n → x[q]? = some [p q, o q] ∧ (0 ≤ p q ∧ p q ≤ 10000 * (j : Int)) ∧ (0 ≤ o q ∧ o q ≤ 10000 * (j : Int))) →
    ∃ r : List (List Int), Ev (fun k => impl_tonnesIn.l1 k x W (W.length : Int) (j : Int) m t v a b c d e) r ∧ r.length = n ∧ ∀ q, q < n → r[q]? = some [p q + totT (q : Int) ws ns, o q + oreT (q : Int) ws ns xs]
  | [], ns, xs, j, x, p, o, h, h', h'', hw, hz, hx, hq => by
      have g := drop_nil h
      refine ⟨x, Ev.next0 fun k => ?_, hx, fun q hq' => ?_⟩
      · simp only [impl_tonnesIn.l1]
        rw [if_neg (by omega)]
      · simp only [totT, oreT, Int.add_zero]
        exact (hq q hq').1
  | w :: ws, [], xs, j, x, p, o, h, h', h'', hw, hz, hx, hq => by
      have g1 := (drop_cons h).1
      have g2 := drop_nil h'
      omega
  | w :: ws, z :: ns, [], j, x, p, o, h, h', h'', hw, hz, hx, hq => by
      have g1 := (drop_cons h).1
      have g2 := drop_nil h''
      omega
  | w :: ws, z :: ns, y :: xs, j, x, p, o, h, h', h'', hw, hz, hx, hq => by
      obtain ⟨g1, g2, g3⟩ := drop_cons h
      obtain ⟨f1, f2, f3⟩ := drop_cons h'
      obtain ⟨e1, e2, e3⟩ := drop_cons h''
      have bz := hz z (by simp)
      have wn := hw w (by simp)
      by_cases c0 : w < 0
      · obtain ⟨r, r1, r2, r3⟩ := impl_tonnesIn_l1 m t v a b c d e W hW ht hv n ws ns xs (j + 1) x p o g3 f3 e3 (fun q hq => hw q (by simp [hq])) (fun q hq => hz q (by simp [hq])) hx (fun q hq' => by have := hq q hq'; refine ⟨this.1, ?_, ?_⟩ <;> (push_cast; omega))
        refine ⟨r, Ev.next1 r1 fun k hk => ?_, r2, fun q hq' => ?_⟩
        · simp only [impl_tonnesIn.l1]
          rw [if_pos (by omega), if_pos (by omega), if_pos (by omega), rd_drop h, if_pos c0, wrap_succ g1 (by omega)]
          exact hk
        · rw [r3 q hq']
          simp only [totT, oreT]
          rw [if_neg (by omega), if_neg (by omega), Int.zero_add, Int.zero_add]
      · obtain ⟨u, rfl⟩ := Int.eq_ofNat_of_zero_le (show 0 ≤ w by omega)
        have un : u < n := by omega
        have hu := hq u un
        have eu : rd_L1 x (u : Int) = [p u, o u] := getD_get hu.1
        have s1 : (x.set u [p u + z, o u])[u]? = some [p u + z, o u] := List.getElem?_set_self (by omega)
        have eu2 : rd_L1 (x.set u [p u + z, o u]) (u : Int) = [p u + z, o u] := getD_get s1
        by_cases c1 : y > 0
        · obtain ⟨r, r1, r2, r3⟩ := impl_tonnesIn_l1 m t v a b c d e W hW ht hv n ws ns xs (j + 1) ((x.set u [p u + z, o u]).set u [p u + z, o u + z]) (fun q => if q = u then p q + z else p q) (fun q => if q = u then o q + z else o q) g3 f3 e3 (fun q hq => hw q (by simp [hq])) (fun q hq => hz q (by simp [hq])) (by simp [hx]) (fun q hq' => by
              have := hq q hq'
              by_cases e : q = u
              · subst e
                rw [if_pos rfl, if_pos rfl]
                refine ⟨List.getElem?_set_self (by simp; omega), ?_, ?_⟩ <;> (push_cast; omega)
              · rw [if_neg e, if_neg e, List.getElem?_set_ne (fun q => e q.symm), List.getElem?_set_ne (fun q => e q.symm)]
                refine ⟨this.1, ?_, ?_⟩ <;> (push_cast; omega))
          refine ⟨r, Ev.next1 r1 fun k hk => ?_, r2, fun q hq' => ?_⟩
          · simp only [impl_tonnesIn.l1]
            rw [if_pos (by omega), if_pos (by omega), if_pos (by omega), rd_drop h, if_neg c0, if_pos (by omega), if_pos (by omega), eu, if_pos (by simp), if_pos (by omega), rd_drop h', Option.bind_some, if_pos (by omega), rd_drop h'', if_pos c1]
            have z1 : ([p u, o u] : List Int).set (0 : Int).toNat (wrap64 (rd [p u, o u] 0 + z)) = [p u + z, o u] := by
              show [wrap64 (p u + z), o u] = _
              rw [wrap_id (by omega) (by omega)]
            rw [z1, show ((u : Int)).toNat = u by omega, eu2, if_pos (by simp)]
            have z2 : ([p u + z, o u] : List Int).set (1 : Int).toNat (wrap64 (rd [p u + z, o u] 1 + z)) = [p u + z, o u + z] := by
              show [p u + z, wrap64 (o u + z)] = _
              rw [wrap_id (by omega) (by omega)]
            rw [z2, wrap_succ g1 (by omega)]
            exact hk
          · rw [r3 q hq']
            simp only [totT, oreT]
            by_cases e : q = u
            · subst e
              rw [if_pos rfl, if_pos rfl, if_pos rfl, if_pos rfl, if_pos c1, Int.add_assoc, Int.add_assoc]
            · rw [if_neg e, if_neg e, if_neg (by omega), if_neg (by omega), Int.zero_add, Int.zero_add]
        · obtain ⟨r, r1, r2, r3⟩ := impl_tonnesIn_l1 m t v a b c d e W hW ht hv n ws ns xs (j + 1) (x.set u [p u + z, o u]) (fun q => if q = u then p q + z else p q) o g3 f3 e3 (fun q hq => hw q (by simp [hq])) (fun q hq => hz q (by simp [hq])) (by simp [hx]) (fun q hq' => by
              have := hq q hq'
              by_cases e : q = u
              · subst e
                rw [if_pos rfl]
                refine ⟨s1, ?_, ?_⟩ <;> (push_cast; omega)
              · rw [if_neg e, List.getElem?_set_ne (fun q => e q.symm)]
                refine ⟨this.1, ?_, ?_⟩ <;> (push_cast; omega))
          refine ⟨r, Ev.next1 r1 fun k hk => ?_, r2, fun q hq' => ?_⟩
          · simp only [impl_tonnesIn.l1]
            rw [if_pos (by omega), if_pos (by omega), if_pos (by omega), rd_drop h, if_neg c0, if_pos (by omega), if_pos (by omega), eu, if_pos (by simp), if_pos (by omega), rd_drop h', Option.bind_some, if_pos (by omega), rd_drop h'', if_neg c1]
            have z1 : ([p u, o u] : List Int).set (0 : Int).toNat (wrap64 (rd [p u, o u] 0 + z)) = [p u + z, o u] := by
              show [wrap64 (p u + z), o u] = _
              rw [wrap_id (by omega) (by omega)]
            rw [z1, show ((u : Int)).toNat = u by omega, wrap_succ g1 (by omega)]
            exact hk
          · rw [r3 q hq']
            simp only [totT, oreT]
            by_cases e : q = u
            · subst e
              rw [if_pos rfl, if_pos rfl, if_pos rfl, if_neg c1, Int.add_assoc, Int.zero_add]
            · rw [if_neg e, if_neg (by omega), if_neg (by omega), Int.zero_add, Int.zero_add]
theorem impl_tonnesIn_ev (m : List (List Int)) (t v : List Int) (a b c d e : Int) (P : Int) (W : List Int) (hj : JobFacts m t v a b c d e) (hW : W.length = m.length) (hb : allIn (-1) (c - 1) W = true) : Ev (fun k => impl_tonnesIn.f k m t v a b c d e P W) (rowsFrom W t v c.toNat 0) := by
  have c6 := hj.c6
  have hn := hj.n
  obtain ⟨r, r1, r2, r3⟩ := impl_tonnesIn_l1 m t v a b c d e W (by omega) (by have := hj.tl; omega) (by have := hj.vl; omega) c.toNat W t v 0 (List.replicate c.toNat [0, 0]) (fun _ => 0) (fun _ => 0) rfl rfl rfl (fun w hw => by have := allIn_mem hb w hw; omega) (fun z hz => allIn_mem hj.tb z hz) (by simp) (fun q hq => ⟨by simp [hq], by omega, by omega⟩)
  have e : r = rowsFrom W t v c.toNat 0 := by
    apply List.ext_getElem?
    intro i
    by_cases hi : i < c.toNat
    · rw [r3 i hi, rowsFrom_get W t v c.toNat 0 i hi]; simp
    · rw [List.getElem?_eq_none (by omega), List.getElem?_eq_none (by rw [rowsFrom_length]; omega)]
  subst e
  have l0 := impl_tonnesIn_l0 m t v a b c d e P W c.toNat (by omega) _ r1 c.toNat 0 (by omega)
  refine Ev.of1 l0 fun k hk => ?_
  simp only [impl_tonnesIn.f]
  rw [if_pos (by omega), if_pos (by omega), Option.bind_some]
  simp only [List.replicate_zero, List.nil_append] at hk
  rw [show ((List.replicate c.toNat ([] : List Int)).length : Int) = (c.toNat : Int) by simp]
  exact hk
-- needs: plan_model
theorem impl_isFeasible_l1 (m : List (List Int)) (t v : List Int) (a b c d e : Int) (rows : List (List Int)) (hn : rows.length ≤ 1000) : ∀ (rs : List (List Int)) (i : Nat), rows.drop i = rs → (∀ r ∈ rs, r.length = 2) → Ev (fun k => impl_isFeasible.l1 k rows (rows.length : Int) (i : Int) m t v a b c d e) (limAll a b rs)
  | [], i, h, h2 => Ev.next0 fun k => by
      have g := drop_nil h
      simp only [impl_isFeasible.l1, limAll]
      rw [if_neg (by omega)]
  | r :: rs, i, h, h2 => by
      obtain ⟨g1, g2, g3⟩ := drop_cons h
      have rl := h2 r (by simp)
      have er : rd_L1 rows (i : Int) = r := getD_drop h
      refine Ev.next1 (impl_isFeasible_l1 m t v a b c d e rows hn rs (i + 1) g3 (fun z hz => h2 z (by simp [hz]))) fun k hk => ?_
      simp only [impl_isFeasible.l1, er, limAll]
      rw [if_pos (by omega), if_pos (by omega), if_pos (by omega), if_pos (by omega), wrap_succ g1 (by omega)]
      by_cases c0 : rd r 0 > a
      · rw [if_pos c0, decide_eq_false (fun q : rd r 0 ≤ a ∧ rd r 1 ≤ b => by omega), Bool.false_and]
      · rw [if_neg c0, if_pos (by omega)]
        by_cases c1 : rd r 1 > b
        · rw [if_pos c1, decide_eq_false (fun q : rd r 0 ≤ a ∧ rd r 1 ≤ b => by omega), Bool.false_and]
        · rw [if_neg c1, decide_eq_true (⟨by omega, by omega⟩ : rd r 0 ≤ a ∧ rd r 1 ≤ b), Bool.true_and]
          exact hk
theorem impl_isFeasible_l0 (m : List (List Int)) (t v : List Int) (a b c d e : Int) (P : Int) (W : List Int) (hj : JobFacts m t v a b c d e) (hW : W.length = m.length) (hb : allIn (-1) (c - 1) W = true) : ∀ (ws : List Int) (rs : List (List Int)) (i : Nat), W.drop i = ws → m.drop i = rs → Ev (fun k => impl_isFeasible.l0 k (W.length : Int) (i : Int) m t v a b c d e P W) (keepAll W ws rs && limAll a b (rowsFrom W t v c.toNat 0))
  | [], rs, i, h, h' => by
      have g := drop_nil h
      have c6 := hj.c6
      have l1 := impl_isFeasible_l1 m t v a b c d e (rowsFrom W t v c.toNat 0) (by rw [rowsFrom_length]; omega) (rowsFrom W t v c.toNat 0) 0 rfl (rowsFrom_two W t v _ _)
      refine (ev_and (impl_tonnesIn_ev m t v a b c d e P W hj hW hb) <| ev_one l1).next fun k ⟨h1, h2⟩ => ?_
      simp only [impl_isFeasible.l0, h1, Option.bind_some, keepAll, Bool.true_and]
      rw [if_neg (by omega)]
      exact h2
  | w :: ws, rs, i, h, h' => by
      obtain ⟨g1, g2, g3⟩ := drop_cons h
      obtain ⟨r, rs', e⟩ : ∃ r rs', rs = r :: rs' := by
        cases rs with
        | nil => have := drop_nil h'; omega
        | cons r rs' => exact ⟨r, rs', rfl⟩
      subst e
      obtain ⟨f1, f2, f3⟩ := drop_cons h'
      have hn := hj.n
      refine (ev_and (impl_keepsOrder_ev m t v a b c d e P W hj hW i w r g2 f2) <| ev_one (impl_isFeasible_l0 m t v a b c d e P W hj hW hb ws rs' (i + 1) g3 f3)).next fun k ⟨h1, h2⟩ => ?_
      simp only [impl_isFeasible.l0, h1, Option.bind_some, keepAll]
      rw [if_pos (by omega), wrap_succ g1 (by omega)]
      cases keepOne W w r
      · simp
      · rw [if_pos rfl, Bool.true_and]
        exact h2
theorem impl_isFeasible_ev (m : List (List Int)) (t v : List Int) (a b c d e : Int) (P : Int) (W : List Int) (hj : JobFacts m t v a b c d e) (hW : W.length = m.length) (hb : allIn (-1) (c - 1) W = true) : Ev (fun k => impl_isFeasible.f k m t v a b c d e P W) (feas m t v a b c W) :=
  Ev.of1 (impl_isFeasible_l0 m t v a b c d e P W hj hW hb W m 0 rfl rfl) fun k hk => by
    simp only [impl_isFeasible.f]
    exact hk
theorem impl_isCutoff_eq (a : Int) : impl_isCutoff.f a = some (decide (0 ≤ a ∧ a ≤ 1001)) := by
  simp only [impl_isCutoff.f]
  split
  · congr 1; rw [decide_eq_decide]; omega
  · congr 1; symm; simp; omega
-- needs: spec_acTo
theorem impl_destinationOf_eq (x y z : Int) (p g r : List Int) (m : List (List Int)) (t v : List Int) (a b c d e : Int) (i q : Int) (h0 : 0 ≤ i) (h1 : i < (v.length : Int)) (h2 : i < (g.length : Int)) : impl_destinationOf.f x y z p g r m t v a b c d e i q = some (toOf v g i q) := by
  simp only [impl_destinationOf.f, toOf]
  rw [if_pos h0, if_pos h1, if_pos h2]
  by_cases c1 : rd v i > 0
  · rw [if_pos c1, if_pos c1]
  · rw [if_neg c1, if_neg c1]
    by_cases c2 : rd g i ≥ q
    · rw [if_pos c2, if_pos c2]
    · rw [if_neg c2, if_neg c2]
-- needs: dest_lens
theorem impl_DestinationSums_l0 (x y z : Int) (p g r : List Int) (m : List (List Int)) (t v : List Int) (a b c d e : Int) (q : Int) (W : List Int) (hn : W.length ≤ 1048576) (hp : p.length = W.length) (hg : g.length = W.length) (hv : v.length = W.length) (bp : allIn 0 10000 p = true) (bg : allIn 0 1000 g = true) : ∀ (ws : List Int) (i : Nat) (S : List Int), W.drop i = ws → S.length = 6 →
    Ev (fun k => impl_DestinationSums.l0 k q S W (W.length : Int) (i : Int) x y z p g r m t v a b c d e) (destS v g p q ws i S, true)
  | [], i, S, h, hS => Ev.next0 fun k => by
      have g0 := drop_nil h
      simp only [impl_DestinationSums.l0, destS]
      rw [if_neg (by omega)]
  | w :: ws, i, S, h, hS => by
      obtain ⟨g1, g2, g3⟩ := drop_cons h
      by_cases c0 : w < 0
      · refine Ev.next1 (impl_DestinationSums_l0 x y z p g r m t v a b c d e q W hn hp hg hv bp bg ws (i + 1) S g3 hS) fun k hk => ?_
        simp only [impl_DestinationSums.l0, destS]
        rw [if_pos (by omega), if_pos (by omega), if_pos (by omega), rd_drop h, if_neg (by omega), if_pos c0, wrap_succ g1 (by omega)]
        exact hk
      · have tb := toOf_bd v g (i : Int) q
        have w2 : wrap64 (2 * toOf v g (i : Int) q) = 2 * toOf v g (i : Int) q := wrap_id (by omega) (by omega)
        have w3 : wrap64 (wrap64 (2 * toOf v g (i : Int) q) + 1) = 2 * toOf v g (i : Int) q + 1 := by rw [w2]; exact wrap_id (by omega) (by omega)
        have pi := allIn_get bp (List.getElem?_eq_getElem (show i < p.length by omega))
        have gi := allIn_get bg (List.getElem?_eq_getElem (show i < g.length by omega))
        have pe : rd p (i : Int) = p[i] := rd_get (List.getElem?_eq_getElem (show i < p.length by omega))
        have ge : rd g (i : Int) = g[i] := rd_get (List.getElem?_eq_getElem (show i < g.length by omega))
        have pr : 0 ≤ rd p (i : Int) * rd g (i : Int) ∧ rd p (i : Int) * rd g (i : Int) ≤ 10000 * 1000 := by
          rw [pe, ge]
          exact ⟨Int.mul_nonneg pi.1 gi.1, Int.mul_le_mul pi.2 gi.2 gi.1 (by omega)⟩
        have wp : wrap64 (rd p (i : Int) * rd g (i : Int)) = rd p (i : Int) * rd g (i : Int) := wrap_id (by omega) (by omega)
        refine Ev.next1 (impl_DestinationSums_l0 x y z p g r m t v a b c d e q W hn hp hg hv bp bg ws (i + 1) (destStep S (toOf v g (i : Int) q) (rd p (i : Int)) (rd p (i : Int) * rd g (i : Int))) g3 (by rw [destStep_length]; exact hS)) fun k hk => ?_
        have e1 := impl_destinationOf_eq x y z p g r m t v a b c d e (i : Int) q (by omega) (by omega) (by omega)
        simp only [impl_DestinationSums.l0, destS, e1, Option.bind_some]
        rw [if_pos (by omega), if_pos (by omega), if_pos (by omega), rd_drop h, if_pos (by omega), if_neg c0, if_pos (by omega), if_pos (by omega), if_pos (by omega), if_pos (by omega), if_pos (by omega), if_pos (by omega), wp, wrap_succ g1 (by omega)]
        exact hk
theorem impl_DestinationSums_ev (x y z : Int) (p g r : List Int) (m : List (List Int)) (t v : List Int) (a b c d e : Int) (P : Int) (W : List Int) (q : Int) (hp : p.length ≤ 1048576) (hg : g.length ≤ 1048576) (hr : r.length ≤ 1048576) (hm : m.length ≤ 1048576) (hl : ∀ y ∈ m, y.length ≤ 1048576) (ht : t.length ≤ 1048576) (hv : v.length ≤ 1048576) (hW : W.length ≤ 1048576) : Ev (fun k => impl_DestinationSums.f k x y z p g r m t v a b c d e P W q) (destSums x y z p g r m t v a b c d e P W q) := by
  have h0 := impl_areOneMine_ev x y z p g r m t v a b c d e hp hg hr hm hl ht hv
  have no : Ev (fun k => impl_DestinationSums.j0 k q true x y z p g r m t v a b c d e P W) ([], false) := Ev.next0 fun k => by simp [impl_DestinationSums.j0]
  unfold destSums
  by_cases g1 : modelOk x y z p g r = true ∧ jobOk m t v a b c d e = true ∧ p = t
  · have e1 : (modelOk x y z p g r && (jobOk m t v a b c d e && decide (p = t))) = true := by rw [g1.1, g1.2.1, decide_eq_true g1.2.2]; rfl
    rw [e1] at h0
    have jf := job_facts g1.2.1
    have h1 := impl_isPlan_ev m t v a b c d e P W hW
    by_cases g2 : planOk m c P W = true
    · rw [g2] at h1
      have pf := plan_facts g2
      have h2 := impl_isFeasible_ev m t v a b c d e P W jf pf.2.1 pf.2.2
      obtain ⟨l1, l2, l3, b1, b2⟩ := dest_lens ⟨g1, g2⟩
      have yes : Ev (fun k => impl_DestinationSums.j0 k q false x y z p g r m t v a b c d e P W) (destS v g p q W 0 (List.replicate 6 0), true) := Ev.next1 (impl_DestinationSums_l0 x y z p g r m t v a b c d e q W hW l1 l2 l3 b1 b2 W 0 (List.replicate 6 0) rfl (by simp)) fun k hk => by
        simp only [impl_DestinationSums.j0]
        rw [if_neg (by simp), if_pos (by decide)]
        exact hk
      refine (ev_and h0 <| ev_and h1 <| ev_and h2 <| ev_and no <| ev_one yes).ev fun k ⟨a0, a1, a2, a3, a4⟩ => ?_
      simp only [impl_DestinationSums.f, a0, a1, a2, impl_isCutoff_eq, Option.bind_some]
      rw [if_pos trivial, if_pos trivial]
      by_cases g3 : feas m t v a b c W = true
      · rw [if_pos g3]
        by_cases g4 : 0 ≤ q ∧ q ≤ 1001
        · rw [decide_eq_true g4, Bool.not_true, a4, if_pos ⟨g1, g2, g3, g4⟩]
        · rw [decide_eq_false g4, Bool.not_false, a3, if_neg (fun z => g4 z.2.2.2)]
      · rw [if_neg g3, a3, if_neg (fun z => g3 z.2.2.1)]
    · have e2 : planOk m c P W = false := by simpa using g2
      rw [e2] at h1
      refine (ev_and h0 <| ev_and h1 <| ev_one no).ev fun k ⟨a0, a1, a3⟩ => ?_
      simp only [impl_DestinationSums.f, a0, a1, Option.bind_some]
      rw [if_pos trivial, if_neg (by simp), a3, if_neg (fun z => g2 z.2.1)]
  · have e1 : (modelOk x y z p g r && (jobOk m t v a b c d e && decide (p = t))) = false := by
      cases q1 : modelOk x y z p g r <;> cases q2 : jobOk m t v a b c d e <;> simp
      exact fun z => g1 ⟨q1, q2, z⟩
    rw [e1] at h0
    refine (ev_and h0 <| ev_one no).ev fun k ⟨a0, a3⟩ => ?_
    simp only [impl_DestinationSums.f, a0, Option.bind_some]
    rw [if_neg (by simp), a3, if_neg (fun z => g1 z.1)]
theorem laws_eqIntS_l0 (l : List Int) (hn : l.length ≤ 9223372036854775807) : ∀ (ys : List Int) (i : Nat), l.drop i = ys → Ev (fun k => laws_eqIntS.l0 k l l i) true
  | [], i, h => Ev.next0 fun k => by
      have h0 := drop_nil h
      simp only [laws_eqIntS.l0]
      rw [if_neg (by omega)]
  | y :: ys, i, h => by
      obtain ⟨h1, h2, h3⟩ := drop_cons h
      refine Ev.next1 (laws_eqIntS_l0 l hn ys (i + 1) h3) fun k hk => ?_
      have e := rd_drop h
      simp only [laws_eqIntS.l0, e]
      rw [if_pos (by omega), if_pos (by omega), if_pos (by omega), if_pos (by simp), wrap_succ h1 hn]
      exact hk
theorem laws_eqIntS_ev (l : List Int) (hn : l.length ≤ 9223372036854775807) : Ev (fun k => laws_eqIntS.f k l l) true :=
  Ev.of1 (laws_eqIntS_l0 l hn l 0 rfl) fun k hk => by
    simp only [laws_eqIntS.f]
    rw [if_pos (by simp)]
    exact hk
theorem laws_eqModel_ev (x y z : Int) (t g r : List Int) (ht : t.length ≤ 1048576) (hg : g.length ≤ 1048576) (hr : r.length ≤ 1048576) : Ev (fun k => laws_eqModel.f k x y z t g r x y z t g r) true :=
  (ev_and (laws_eqIntS_ev t (by omega)) <| ev_and (laws_eqIntS_ev g (by omega)) <| ev_one (laws_eqIntS_ev r (by omega))).ev fun k ⟨h1, h2, h3⟩ => by
    simp [laws_eqModel.f, laws_eqGrid.f, h1, h2, h3]
theorem laws_eqIntSS_l0 (l : List (List Int)) (hn : l.length ≤ 1048576) (hl : ∀ y ∈ l, y.length ≤ 1048576) : ∀ (ys : List (List Int)) (i : Nat), l.drop i = ys → Ev (fun k => laws_eqIntSS.l0 k l l i) true
  | [], i, h => Ev.next0 fun k => by
      have h0 := drop_nil h
      simp only [laws_eqIntSS.l0]
      rw [if_neg (by omega)]
  | y :: ys, i, h => by
      obtain ⟨h1, h2, h3⟩ := drop_cons h
      have hy := hl y (List.mem_of_getElem? h2)
      refine Ev.next2 (laws_eqIntSS_l0 l hn hl ys (i + 1) h3) (laws_eqIntS_ev y (by omega)) fun k hk hk2 => ?_
      have e : rd_L1 l i = y := getD_drop h
      simp only [laws_eqIntSS.l0, e, hk2, Option.bind_some]
      rw [if_pos (by omega), if_pos (by omega), if_pos (by omega), if_pos (by simp), wrap_succ h1 (by omega)]
      exact hk
theorem laws_eqIntSS_ev (l : List (List Int)) (hn : l.length ≤ 1048576) (hl : ∀ y ∈ l, y.length ≤ 1048576) : Ev (fun k => laws_eqIntSS.f k l l) true :=
  Ev.of1 (laws_eqIntSS_l0 l hn hl l 0 rfl) fun k hk => by
    simp only [laws_eqIntSS.f]
    rw [if_pos (by simp)]
    exact hk
theorem laws_eqJob_ev (m : List (List Int)) (t v : List Int) (a b c d e : Int) (hm : m.length ≤ 1048576) (hl : ∀ y ∈ m, y.length ≤ 1048576) (ht : t.length ≤ 1048576) (hv : v.length ≤ 1048576) : Ev (fun k => laws_eqJob.f k m t v a b c d e m t v a b c d e) true :=
  (ev_and (laws_eqIntSS_ev m hm hl) <| ev_and (laws_eqIntS_ev t (by omega)) <| ev_one (laws_eqIntS_ev v (by omega))).ev fun k ⟨h1, h2, h3⟩ => by
    simp [laws_eqJob.f, laws_eqLimits.f, h1, h2, h3]
theorem laws_eqPlan_ev (P : Int) (W : List Int) (hW : W.length ≤ 1048576) : Ev (fun k => laws_eqPlan.f k P W P W) true :=
  Ev.of1 (laws_eqIntS_ev W (by omega)) fun k hk => by
    simp [laws_eqPlan.f, hk]
theorem laws_markIntS_l0 (n : Nat) (c : Int) (hc : 0 ≤ c) (hb : c + n ≤ 9223372036854775807) : ∀ (d i : Nat) (x : List Int), i + d = n → x.length = n → x.take i = (markI n c).take i → Ev (fun k => laws_markIntS.l0 k x (c + (i : Int)) i) (c + (n : Int), markI n c)
  | 0, i, x, hd, hl, ht => Ev.next0 fun k => by
      simp only [laws_markIntS.l0]
      rw [if_neg (by omega), copy_end (by rw [hl, markI_length]) ht (by rw [markI_length]; omega), show i = n by omega]
  | d + 1, i, x, hd, hl, ht => by
      obtain ⟨c1, c2⟩ := copy_step (markI_get n c i (by omega)) (by rw [hl, markI_length]) ht
      refine Ev.next1 (laws_markIntS_l0 n c hc hb d (i + 1) _ (by omega) (by rw [c1, markI_length]) c2) fun k hk => ?_
      simp only [laws_markIntS.l0]
      rw [if_pos (by omega), if_pos (by omega), wrap_succ (n := n) (by omega) (by omega), wrap_id (by omega) (by omega), toNat_cast, show c + (i : Int) + 1 = c + ((i + 1 : Nat) : Int) by push_cast; omega]
      exact hk
theorem laws_markIntS_ev (x : List Int) (c : Int) (hc : 0 ≤ c) (hb : c + x.length ≤ 9223372036854775807) : Ev (fun k => laws_markIntS.f k x c) (c + (x.length : Int), markI x.length c) :=
  Ev.of1 (laws_markIntS_l0 x.length c hc hb x.length 0 x (by omega) rfl rfl) fun k hk => by
    simp only [laws_markIntS.f]
    rw [show c + ((0 : Nat) : Int) = c by omega] at hk
    exact hk
theorem laws_markModel_ev (x y z : Int) (t g r : List Int) (ht : t.length ≤ 1048576) (hg : g.length ≤ 1048576) (hr : r.length ≤ 1048576) (c : Int) (hc : 0 ≤ c) (hb : c ≤ 9223372036850000000) : Ev (fun k => laws_markModel.f k x y z t g r c) (c + (t.length : Int) + (g.length : Int) + (r.length : Int), markI t.length c, markI g.length (c + (t.length : Int)), markI r.length (c + (t.length : Int) + (g.length : Int))) :=
  (ev_and (laws_markIntS_ev t c hc (by omega)) <| ev_and (laws_markIntS_ev g (c + (t.length : Int)) (by omega) (by omega)) <| ev_one (laws_markIntS_ev r (c + (t.length : Int) + (g.length : Int)) (by omega) (by omega))).ev fun k ⟨h1, h2, h3⟩ => by
    simp only [laws_markModel.f, h1, h2, h3, Option.bind_some]
def markRows : List (List Int) → Int → List (List Int)
  | [], _ => []
  | y :: ys, c => markI y.length c :: markRows ys (c + (y.length : Int))
theorem take_set1 {α : Type} (x : List α) (i : Nat) (m : α) (h : i < x.length) : (x.set i m).take (i + 1) = x.take i ++ [m] := by
  apply List.ext_getElem?
  intro j
  rcases Nat.lt_trichotomy j i with hj | hj | hj
  · rw [List.getElem?_take_of_lt (by omega), List.getElem?_set_ne (by omega), List.getElem?_append_left (by simp; omega), List.getElem?_take_of_lt hj]
  · subst hj
    rw [List.getElem?_take_of_lt (by omega), List.getElem?_set_self h, List.getElem?_append_right (by simp; omega)]
    simp [Nat.min_eq_left (Nat.le_of_lt h)]
  · rw [List.getElem?_eq_none (by simp; omega), List.getElem?_eq_none (by simp; omega)]
theorem drop_set1 {α : Type} (a : List α) (i : Nat) (v : α) : (a.set i v).drop (i + 1) = a.drop (i + 1) := by
  apply List.ext_getElem?
  intro j
  rw [List.getElem?_drop, List.getElem?_drop, List.getElem?_set_ne (by omega)]
-- needs: mark_rows
theorem laws_markIntSS_x0 : ∀ (ys x : List (List Int)) (i : Nat) (c : Int), x.drop i = ys → x.length ≤ 1048576 → 0 ≤ c → c + (sumLen ys : Int) ≤ 4611686018427387904 → Ev (fun k => laws_markIntSS.l0 k x c i) (c + (sumLen ys : Int), x.take i ++ markRows ys c)
  | [], x, i, c, h, hn, hc, hb => Ev.next0 fun k => by
      have h0 := drop_nil h
      simp only [laws_markIntSS.l0, sumLen, markRows, List.append_nil]
      rw [if_neg (by omega), show c + ((0 : Nat) : Int) = c by omega, List.take_of_length_le h0]
  | y :: ys, x, i, c, h, hn, hc, hb => by
      obtain ⟨h1, h2, h3⟩ := drop_cons h
      simp only [sumLen] at hb ⊢
      have hd : (x.set i (markI y.length c)).drop (i + 1) = ys := by rw [drop_set1, h3]
      have ih := laws_markIntSS_x0 ys (x.set i (markI y.length c)) (i + 1) (c + (y.length : Int)) hd (by simpa using hn) (by omega) (by push_cast at hb; omega)
      have hm := laws_markIntS_ev y c hc (by push_cast at hb; omega)
      rw [show c + (y.length : Int) + (sumLen ys : Int) = c + ((y.length + sumLen ys : Nat) : Int) by push_cast; omega, take_set1 x i _ h1, List.append_assoc] at ih
      refine Ev.next2 hm ih fun k k1 k2 => ?_
      have e : rd_L1 x i = y := getD_drop h
      simp only [laws_markIntSS.l0, e, k1, Option.bind_some]
      rw [if_pos (by omega), if_pos (by omega), wrap_succ h1 (by omega), toNat_cast]
      exact k2
theorem laws_markIntSS_pv (l : List (List Int)) (c : Int) (hn : l.length ≤ 1048576) (hc : 0 ≤ c) (hb : c + (sumLen l : Int) ≤ 4611686018427387904) : Ev (fun k => laws_markIntSS.p k l c) (c + (sumLen l : Int), markRows l c) :=
  Ev.of1 (laws_markIntSS_x0 l l 0 c rfl hn hc hb) fun k hk => by
    simp only [laws_markIntSS.p]
    rw [show ((0 : Nat) : Int) = 0 from rfl, List.take_zero, List.nil_append] at hk
    exact hk
theorem laws_markJob_ev (m : List (List Int)) (t v : List Int) (a b c d e : Int) (q : Int) (hm : m.length ≤ 1048576) (ht : t.length ≤ 1048576) (hv : v.length ≤ 1048576) (hq : 0 ≤ q) (hb : q + (sumLen m : Int) ≤ 4611686018427387904) : Ev (fun k => laws_markJob.f k m t v a b c d e q) (q + (sumLen m : Int) + (t.length : Int) + (v.length : Int), markRows m q, markI t.length (q + (sumLen m : Int)), markI v.length (q + (sumLen m : Int) + (t.length : Int))) :=
  (ev_and (laws_markIntSS_pv m q hm hq hb) <| ev_and (laws_markIntS_ev t (q + (sumLen m : Int)) (by omega) (by omega)) <| ev_one (laws_markIntS_ev v (q + (sumLen m : Int) + (t.length : Int)) (by omega) (by omega))).ev fun k ⟨h1, h2, h3⟩ => by
    simp only [laws_markJob.f, h1, h2, h3, Option.bind_some]
theorem laws_markPlan_ev (P : Int) (W : List Int) (c : Int) (hc : 0 ≤ c) (hb : c + W.length ≤ 9223372036854775807) : Ev (fun k => laws_markPlan.f k P W c) (c + (W.length : Int), markI W.length c) :=
  (ev_one (laws_markIntS_ev W c hc hb)).ev fun k h1 => by
    simp only [laws_markPlan.f, h1, Option.bind_some]
theorem laws_heldIntS_l0 (n : Nat) (c : Int) (hc : 0 ≤ c) (hb : c + n ≤ 9223372036854775807) : ∀ (d i : Nat), i + d = n → Ev (fun k => laws_heldIntS.l0 k (markI n c) (c + (i : Int)) i) (c + (n : Int))
  | 0, i, hd => Ev.next0 fun k => by
      simp only [laws_heldIntS.l0]
      rw [if_neg (by rw [markI_length]; omega), show i = n by omega]
  | d + 1, i, hd => by
      refine Ev.next1 (laws_heldIntS_l0 n c hc hb d (i + 1) (by omega)) fun k hk => ?_
      have e := rd_get (markI_get n c i (by omega))
      simp only [laws_heldIntS.l0, e]
      rw [if_pos (by rw [markI_length]; omega), if_pos (by omega), if_pos (by simp), wrap_succ (n := n) (by omega) (by omega), wrap_id (by omega) (by omega), show c + (i : Int) + 1 = c + ((i + 1 : Nat) : Int) by push_cast; omega]
      exact hk
theorem laws_heldIntS_ev (n : Nat) (c : Int) (hc : 0 ≤ c) (hb : c + n ≤ 9223372036854775807) : Ev (fun k => laws_heldIntS.f k (markI n c) c) (c + (n : Int)) :=
  Ev.of1 (laws_heldIntS_l0 n c hc hb n 0 (by omega)) fun k hk => by
    simp only [laws_heldIntS.f]
    rw [show c + ((0 : Nat) : Int) = c by omega] at hk
    exact hk
theorem j4_ev (n : Nat) (hn : n ≤ 1048576) : Ev (fun k => laws_FnExactDestinationSums.j4 k (markI n 1) (1 + (n : Int)) false) true :=
  (ev_one (laws_heldIntS_ev n 1 (by omega) (by omega))).next fun k h1 => by
    simp only [laws_FnExactDestinationSums.j4, h1, Option.bind_some]
    rw [if_neg (by simp), if_neg (by omega), if_pos (by simp)]
theorem j3_ev (x y z : Int) (p g r : List Int) (m : List (List Int)) (t v : List Int) (a b c d e P : Int) (W : List Int) (q : Int) (h1 : p.length ≤ 1048576) (h2 : g.length ≤ 1048576) (h3 : r.length ≤ 1048576) (h4 : m.length ≤ 1048576) (h5 : ∀ y ∈ m, y.length ≤ 1048576) (h6 : t.length ≤ 1048576) (h7 : v.length ≤ 1048576) (h8 : W.length ≤ 1048576) (u : List Int × Bool) (hu : u = destSums x y z p g r m t v a b c d e P W q) : Ev (fun k => laws_FnExactDestinationSums.j3 k q u.1 u.2 u.1 false x y z p g r m t v a b c d e P W) true := by
  have hw := destSums_len x y z p g r m t v a b c d e P W q
  have hi := impl_DestinationSums_ev x y z p g r m t v a b c d e P W q h1 h2 h3 h4 h5 h6 h7 h8
  rw [← hu] at hw hi
  refine (ev_and (laws_markIntS_ev u.1 1 (by omega) (by omega)) <| ev_and (laws_heldIntS_ev u.1.length 1 (by omega) (by omega)) <| ev_and (laws_toModel_ev x y z p g r h1 h2 h3) <| ev_and (laws_toJob_ev m t v a b c d e h4 h5 h6 h7) <| ev_and (laws_toPlan_ev P W h8) <| ev_and hi <| ev_and (laws_eqIntS_ev u.1 (by omega)) <| ev_one (j4_ev u.1.length (by omega))).next fun k ⟨a1, a2, a3, a4, a5, a6, a7, a8⟩ => ?_
  simp only [laws_FnExactDestinationSums.j3, a1, a2, a3, a4, a5, a6, a7, Option.bind_some]
  rw [if_neg (by simp), if_neg (by omega), if_pos (by simp), if_pos (by simp), bne_self_eq_false]; exact a8
theorem j2_ev (x y z : Int) (p g r : List Int) (m : List (List Int)) (t v : List Int) (a b c d e P : Int) (W : List Int) (q : Int) (h1 : p.length ≤ 1048576) (h2 : g.length ≤ 1048576) (h3 : r.length ≤ 1048576) (h4 : m.length ≤ 1048576) (h5 : ∀ y ∈ m, y.length ≤ 1048576) (h6 : t.length ≤ 1048576) (h7 : v.length ≤ 1048576) (h8 : W.length ≤ 1048576) (hs : sumLen m ≤ 1048576) (u : List Int × Bool) (hu : u = destSums x y z p g r m t v a b c d e P W q) : Ev (fun k => laws_FnExactDestinationSums.j2 k q u.1 u.2 u.1 u.2 x y z p g r m t v a b c d e P W x y z p g r m t v a b c d e P W) true := by
  have hw := destSums_len x y z p g r m t v a b c d e P W q
  rw [← hu] at hw
  refine (ev_and (laws_markModel_ev x y z p g r h1 h2 h3 1 (by omega) (by omega)) <| ev_and (laws_markJob_ev m t v a b c d e (1 + (p.length : Int) + (g.length : Int) + (r.length : Int)) h4 h6 h7 (by omega) (by omega)) <| ev_and (laws_markPlan_ev P W (1 + (p.length : Int) + (g.length : Int) + (r.length : Int) + (sumLen m : Int) + (t.length : Int) + (v.length : Int)) (by omega) (by omega)) <| ev_and (laws_eqIntS_ev u.1 (by omega)) <| ev_one (j3_ev x y z p g r m t v a b c d e P W q h1 h2 h3 h4 h5 h6 h7 h8 u hu)).next fun k ⟨a1, a2, a3, a4, a5⟩ => ?_
  simp only [laws_FnExactDestinationSums.j2, a1, a2, a3, a4, Option.bind_some]
  rw [if_neg (by omega), if_pos (by simp), bne_self_eq_false]; exact a5
theorem j1_ev (x y z : Int) (p g r : List Int) (m : List (List Int)) (t v : List Int) (a b c d e P : Int) (W : List Int) (q : Int) (h1 : p.length ≤ 1048576) (h2 : g.length ≤ 1048576) (h3 : r.length ≤ 1048576) (h4 : m.length ≤ 1048576) (h5 : ∀ y ∈ m, y.length ≤ 1048576) (h6 : t.length ≤ 1048576) (h7 : v.length ≤ 1048576) (h8 : W.length ≤ 1048576) (hs : sumLen m ≤ 1048576) (u : List Int × Bool) (hu : u = destSums x y z p g r m t v a b c d e P W q) : Ev (fun k => laws_FnExactDestinationSums.j1 k q u.1 u.2 u.1 u.2 false x y z p g r m t v a b c d e P W x y z p g r m t v a b c d e P W) true :=
  (ev_and (laws_toModel_ev x y z p g r h1 h2 h3) <| ev_and (laws_eqModel_ev x y z p g r h1 h2 h3) <| ev_and (laws_toJob_ev m t v a b c d e h4 h5 h6 h7) <| ev_and (laws_eqJob_ev m t v a b c d e h4 h5 h6 h7) <| ev_and (laws_toPlan_ev P W h8) <| ev_and (laws_eqPlan_ev P W h8) <| ev_one (j2_ev x y z p g r m t v a b c d e P W q h1 h2 h3 h4 h5 h6 h7 h8 hs u hu)).next fun k ⟨a1, a2, a3, a4, a5, a6, a7⟩ => by
    simp only [laws_FnExactDestinationSums.j1, a1, a2, a3, a4, a5, a6, Option.bind_some]
    rw [if_neg (by simp), if_pos (by simp), if_pos (by simp), if_pos (by simp)]; exact a7
theorem FnExactDestinationSums : Stat.FnExactDestinationSums := by
  intro x y z p g r m t v a b c d e P W q _ _ _ hp hg hr hm ht hv _ _ _ _ _ _ hW _
  refine Ev.rounds ?_
  have hs := laws_szModel_eq x y z p g r 1048576 (by omega) (by omega) hp.1 hg.1 hr.1
  by_cases hq : (1048576 : Int) < ((p.length + g.length + r.length : Nat) : Int)
  · refine Ev.all fun k => ?_
    simp only [laws_FnExactDestinationSums.f, hs, Option.bind_some]
    rw [left_lt hq, if_pos (by omega)]
  have hl : left 1048576 (p.length + g.length + r.length) = 1048576 - ((p.length + g.length + r.length : Nat) : Int) := left_ge (by omega)
  have hj := laws_szJob_ev m t v a b c d e (1048576 - ((p.length + g.length + r.length : Nat) : Int)) hm.1 (fun y hy => (hm.2 y hy).1) ht.1 hv.1 (by omega) (by omega)
  suffices hh : Ev (fun k => laws_FnExactDestinationSums.j0 k q (1048576 - ((p.length + g.length + r.length : Nat) : Int)) x y z p g r m t v a b c d e P W) true by
    refine (ev_one hh).ev fun k h0 => ?_
    simp only [laws_FnExactDestinationSums.f, hs, Option.bind_some]
    rw [hl, if_neg (by omega), h0]
  by_cases hw : 1048576 - ((p.length + g.length + r.length : Nat) : Int) < ((tot m + t.length + v.length : Nat) : Int)
  · refine (ev_one hj).next fun k a1 => ?_
    simp only [laws_FnExactDestinationSums.j0, a1, Option.bind_some]
    rw [left_lt hw, if_pos (by omega)]
  have hz := laws_szPlan_eq P W (1048576 - ((p.length + g.length + r.length : Nat) : Int) - ((tot m + t.length + v.length : Nat) : Int)) (by omega) (by omega) hW.1
  by_cases hk : 1048576 - ((p.length + g.length + r.length : Nat) : Int) - ((tot m + t.length + v.length : Nat) : Int) < (W.length : Int)
  · refine (ev_one hj).next fun k a1 => ?_
    simp only [laws_FnExactDestinationSums.j0, a1, Option.bind_some]
    rw [left_ge (by omega), if_neg (by omega), hz, Option.bind_some, left_lt hk, if_pos (by omega)]
  have ho := tot_eq m
  have h1 : p.length ≤ 1048576 := by omega
  have h2 : g.length ≤ 1048576 := by omega
  have h3 : r.length ≤ 1048576 := by omega
  have h4 : m.length ≤ 1048576 := by omega
  have h5 : ∀ y ∈ m, y.length ≤ 1048576 := fun y hy => by have := sumLen_mem hy; omega
  have h6 : t.length ≤ 1048576 := by omega
  have h7 : v.length ≤ 1048576 := by omega
  have h8 : W.length ≤ 1048576 := by omega
  have hn := destSums_len x y z p g r m t v a b c d e P W q
  have s1 := spec_DestinationSums_ev x y z p g r m t v a b c d e P W q h1 h2 h3 h4 h5 h6 h7 h8
  have s2 := impl_DestinationSums_ev x y z p g r m t v a b c d e P W q h1 h2 h3 h4 h5 h6 h7 h8
  have s3 := j1_ev x y z p g r m t v a b c d e P W q h1 h2 h3 h4 h5 h6 h7 h8 (by omega) _ rfl
  generalize destSums x y z p g r m t v a b c d e P W q = u at hn s1 s2 s3
  refine (ev_and hj <| ev_and (laws_toModel_ev x y z p g r h1 h2 h3) <| ev_and (laws_toJob_ev m t v a b c d e h4 h5 h6 h7) <| ev_and (laws_toPlan_ev P W h8) <| ev_and s1 <| ev_and s2 <| ev_and (laws_eqIntS_ev u.1 (by omega)) <| ev_one s3).next fun k ⟨a1, a2, a3, a4, a5, a6, a7, a8⟩ => ?_
  simp only [laws_FnExactDestinationSums.j0, a1, Option.bind_some]
  rw [left_ge (by omega), if_neg (by omega), hz, Option.bind_some, left_ge (by omega), if_neg (by omega)]
  simp only [a2, a3, a4, a5, a6, a7, Option.bind_some]
  rw [if_pos (by simp), bne_self_eq_false]; exact a8
end Go.Proofs.Ytloddihakhgcdaa.PureFnExactDestinationSums
namespace Go.Proofs.Ytloddihakhgcdaa.Pure
theorem FnExactDestinationSums : Stat.FnExactDestinationSums := PureFnExactDestinationSums.FnExactDestinationSums
end Go.Proofs.Ytloddihakhgcdaa.Pure
