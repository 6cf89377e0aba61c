/- The law FnExactEstimateBlock over numbers and lists: it is true of every input. -/
import Derived.Test.YtoaglacdklmafaaStatFnExactEstimateBlock
import Derived.Test.YtoaglacdklmafaaWMore
set_option linter.unusedVariables false
set_option linter.unusedSimpArgs false
namespace Go.Proofs.Ytoaglacdklmafaa.Kit
open Go.RowKit Go.Proofs.YtoaglacdklmafaaW.PrintWords Go.Proofs.YtoaglacdklmafaaW.PrintMore

/-! ### Rounds -/
theorem Ev.all {α : Type} {g : Nat → Option α} {r : α} (h : ∀ k, g k = some r) : Ev g r := ⟨0, fun k _ => h k⟩
theorem Ev.of1 {α β : Type} {g : Nat → Option α} {f : Nat → Option β} {r : α} {b : β} (h : Ev f b) (k : ∀ k, f k = some b → g k = some r) : Ev g r := by
  obtain ⟨K, h⟩ := h; exact ⟨K, fun n hn => k n (h n hn)⟩
theorem Ev.of2 {α β γ : Type} {g : Nat → Option α} {f : Nat → Option β} {f' : Nat → Option γ} {r : α} {b : β} {c : γ} (h : Ev f b) (h' : Ev f' c) (k : ∀ k, f k = some b → f' k = some c → g k = some r) : Ev g r := by
  obtain ⟨K, h⟩ := h; obtain ⟨K', h'⟩ := h'; exact ⟨K + K', fun n hn => k n (h n (by omega)) (h' n (by omega))⟩
theorem Ev.of3 {α β γ δ : Type} {g : Nat → Option α} {f : Nat → Option β} {f' : Nat → Option γ} {f'' : Nat → Option δ} {r : α} {b : β} {c : γ} {d : δ} (h : Ev f b) (h' : Ev f' c) (h'' : Ev f'' d)
    (k : ∀ k, f k = some b → f' k = some c → f'' k = some d → g k = some r) : Ev g r := by
  obtain ⟨K, h⟩ := h; obtain ⟨K', h'⟩ := h'; obtain ⟨K'', h''⟩ := h''
  exact ⟨K + K' + K'', fun n hn => k n (h n (by omega)) (h' n (by omega)) (h'' n (by omega))⟩
/-- Two at once: a pair of facts for one number of rounds. -/
def Both {α β : Type} (f : Nat → Option α) (g : Nat → Option β) (a : α) (b : β) : Prop := ∃ K, ∀ k, K ≤ k → f k = some a ∧ g k = some b
theorem Ev.next0 {α : Type} {g : Nat → Option α} {r : α} (h : ∀ k, g (k + 1) = some r) : Ev g r :=
  ⟨1, fun n hn => by obtain ⟨m, rfl⟩ : ∃ m, n = m + 1 := ⟨n - 1, by omega⟩; exact h m⟩
theorem Ev.next1 {α β : Type} {g : Nat → Option α} {f : Nat → Option β} {r : α} {b : β} (h : Ev f b) (k : ∀ k, f k = some b → g (k + 1) = some r) : Ev g r := by
  obtain ⟨K, h⟩ := h
  exact ⟨K + 1, fun n hn => by obtain ⟨m, rfl⟩ : ∃ m, n = m + 1 := ⟨n - 1, by omega⟩; exact k m (h m (by omega))⟩
theorem Ev.next2 {α β γ : Type} {g : Nat → Option α} {f : Nat → Option β} {f' : Nat → Option γ} {r : α} {b : β} {c : γ} (h : Ev f b) (h' : Ev f' c) (k : ∀ k, f k = some b → f' k = some c → g (k + 1) = some r) : Ev g r := by
  obtain ⟨K, h⟩ := h; obtain ⟨K', h'⟩ := h'
  exact ⟨K + K' + 1, fun n hn => by obtain ⟨m, rfl⟩ : ∃ m, n = m + 1 := ⟨n - 1, by omega⟩; exact k m (h m (by omega)) (h' m (by omega))⟩
theorem Ev.next3 {α β γ δ : Type} {g : Nat → Option α} {f : Nat → Option β} {f' : Nat → Option γ} {f'' : Nat → Option δ} {r : α} {b : β} {c : γ} {d : δ} (h : Ev f b) (h' : Ev f' c) (h'' : Ev f'' d)
    (k : ∀ k, f k = some b → f' k = some c → f'' k = some d → g (k + 1) = some r) : Ev g r := by
  obtain ⟨K, h⟩ := h; obtain ⟨K', h'⟩ := h'; obtain ⟨K'', h''⟩ := h''
  exact ⟨K + K' + K'' + 1, fun n hn => by obtain ⟨m, rfl⟩ : ∃ m, n = m + 1 := ⟨n - 1, by omega⟩; exact k m (h m (by omega)) (h' m (by omega)) (h'' m (by omega))⟩
theorem Ev.uniq {α : Type} {g : Nat → Option α} {r s : α} (h : Ev g r) (k : Ev g s) : r = s := by
  obtain ⟨K, h⟩ := h; obtain ⟨K', k⟩ := k
  have a := h (K + K') (by omega); have b := k (K + K') (by omega)
  rw [a] at b; exact Option.some.inj b

/-- From some number of rounds on. -/
def Evt (p : Nat → Prop) : Prop := ∃ K, ∀ k, K ≤ k → p k
theorem ev_one {α : Type} {f : Nat → Option α} {a : α} (h : Ev f a) : Evt (fun k => f k = some a) := h
theorem ev_and {α : Type} {f : Nat → Option α} {a : α} {p : Nat → Prop} (h : Ev f a) (h' : Evt p) : Evt (fun k => f k = some a ∧ p k) := by
  obtain ⟨K, h⟩ := h; obtain ⟨K', h'⟩ := h'; exact ⟨K + K', fun n hn => ⟨h n (by omega), h' n (by omega)⟩⟩
theorem Evt.ev {α : Type} {g : Nat → Option α} {r : α} {p : Nat → Prop} (h : Evt p) (k : ∀ k, p k → g k = some r) : Ev g r := by
  obtain ⟨K, h⟩ := h; exact ⟨K, fun n hn => k n (h n hn)⟩
theorem Evt.next {α : Type} {g : Nat → Option α} {r : α} {p : Nat → Prop} (h : Evt p) (k : ∀ k, p k → g (k + 1) = some r) : Ev g r := by
  obtain ⟨K, h⟩ := h
  exact ⟨K + 1, fun n hn => by obtain ⟨m, rfl⟩ : ∃ m, n = m + 1 := ⟨n - 1, by omega⟩; exact k m (h m (by omega))⟩

/-! ### Whole numbers -/
theorem wrap_id {x : Int} (h0 : -9223372036854775808 ≤ x) (h1 : x ≤ 9223372036854775807) : wrap64 x = x := by unfold wrap64; omega
theorem wrap_succ {i n : Nat} (h : i < n) (hn : n ≤ 9223372036854775807) : wrap64 ((i : Int) + 1) = ((i + 1 : Nat) : Int) := by unfold wrap64; omega
theorem toNat_cast (i : Nat) : ((i : Int)).toNat = i := by omega

theorem mx_eq (a b : Int) : mx a b = max a b := by unfold mx; split <;> omega
theorem mn_eq (a b : Int) : mn a b = min a b := by unfold mn; split <;> omega

/-! ### Lists from an index on -/
theorem drop_cons {α : Type} {xs ys : List α} {y : α} {i : Nat} (h : xs.drop i = y :: ys) : i < xs.length ∧ xs[i]? = some y ∧ xs.drop (i + 1) = ys := by
  have hlt : i < xs.length := by
    by_cases hlt : i < xs.length
    · exact hlt
    · rw [List.drop_of_length_le (by omega)] at h; cases h
  rw [List.drop_eq_getElem_cons hlt] at h
  injection h with h1 h2
  exact ⟨hlt, by rw [List.getElem?_eq_getElem hlt, h1], h2⟩
theorem drop_nil {α : Type} {xs : List α} {i : Nat} (h : xs.drop i = []) : xs.length ≤ i := by simpa using h
theorem getD_drop {α : Type} {xs ys : List α} {y d : α} {i : Nat} (h : xs.drop i = y :: ys) : xs.getD ((i : Int)).toNat d = y := by
  rw [toNat_cast, List.getD_eq_getElem?_getD, (drop_cons h).2.1]; rfl
theorem rd_drop {xs ys : List Int} {y : Int} {i : Nat} (h : xs.drop i = y :: ys) : rd xs (i : Int) = y := getD_drop h
theorem rdOf_drop {α : Type} {xs ys : List α} {y d : α} {i : Nat} (h : xs.drop i = y :: ys) : rdOf d xs (i : Int) = y := getD_drop h
theorem getD_get {α : Type} {xs : List α} {y d : α} {i : Nat} (h : xs[i]? = some y) : xs.getD ((i : Int)).toNat d = y := by
  rw [toNat_cast, List.getD_eq_getElem?_getD, h]; rfl
theorem rd_get {xs : List Int} {y : Int} {i : Nat} (h : xs[i]? = some y) : rd xs (i : Int) = y := getD_get h
theorem rdOf_get {α : Type} {xs : List α} {y d : α} {i : Nat} (h : xs[i]? = some y) : rdOf d xs (i : Int) = y := getD_get h
theorem drop_of_get {α : Type} {xs : List α} {y : α} {i : Nat} (h : xs[i]? = some y) : xs.drop i = y :: xs.drop (i + 1) := by
  obtain ⟨hl, rfl⟩ := List.getElem?_eq_some_iff.1 h
  exact List.drop_eq_getElem_cons hl

/-- What is left of a, n taken off; -1 if it isn't enough. -/
def left (a : Int) (n : Nat) : Int := if a < (n : Int) then -1 else a - (n : Int)
theorem left_lt {a : Int} {n : Nat} (h : a < (n : Int)) : left a n = -1 := if_pos h
theorem left_ge {a : Int} {n : Nat} (h : (n : Int) ≤ a) : left a n = a - (n : Int) := if_neg (by omega)
/-- How many values rows hold, the rows counted too. -/
def tot : List (List Int) → Nat
  | [] => 0
  | y :: ys => 1 + y.length + tot ys
def sumLen : List (List Int) → Nat
  | [] => 0
  | y :: ys => y.length + sumLen ys
theorem tot_eq : ∀ ls : List (List Int), tot ls = ls.length + sumLen ls
  | [] => rfl
  | y :: ys => by simp only [tot, sumLen, List.length_cons, tot_eq ys]; omega
theorem sumLen_mem : ∀ {ls : List (List Int)} {y : List Int}, y ∈ ls → y.length ≤ sumLen ls
  | z :: zs, y, h => by
    rcases List.mem_cons.1 h with rfl | h
    · simp only [sumLen]; omega
    · have := sumLen_mem h; simp only [sumLen]; omega

/-! ### A list that is copied, element for element -/
theorem copy_step {α : Type} {m x : List α} {y : α} {i : Nat} (hm : m[i]? = some y) (hl : x.length = m.length) (ht : x.take i = m.take i) : (x.set i y).length = m.length ∧ (x.set i y).take (i + 1) = m.take (i + 1) := by
  obtain ⟨hi, rfl⟩ := List.getElem?_eq_some_iff.1 hm
  refine ⟨by simpa using hl, ?_⟩
  apply List.ext_getElem?
  intro j
  have hj : (x.take i)[j]? = (m.take i)[j]? := by rw [ht]
  rw [List.getElem?_take, List.getElem?_take] at *
  by_cases h1 : j < i + 1
  · rw [if_pos h1, if_pos h1]
    by_cases h2 : j = i
    · subst h2
      rw [List.getElem?_set_self (by omega), List.getElem?_eq_getElem hi]
    · rw [List.getElem?_set_ne (by omega)]
      rw [if_pos (by omega), if_pos (by omega)] at hj
      exact hj
  · rw [if_neg h1, if_neg h1]
theorem copy_end {α : Type} {m x : List α} {i : Nat} (hl : x.length = m.length) (ht : x.take i = m.take i) (hi : m.length ≤ i) : x = m := by
  rw [List.take_of_length_le (by omega), List.take_of_length_le hi] at ht; exact ht

/-! ### Strictly increasing lists of 0..n-1 -/
def rise (n : Int) : Int → List Int → Bool
  | _, [] => true
  | p, y :: ys => decide (0 ≤ y ∧ y < n ∧ p < y) && rise n y ys
theorem rise_mem {n : Int} : ∀ {p : Int} {ys : List Int}, rise n p ys = true → ∀ y ∈ ys, 0 ≤ y ∧ y < n ∧ p < y
  | p, [], _, y, hy => by cases hy
  | p, z :: zs, h, y, hy => by
    simp only [rise, Bool.and_eq_true, decide_eq_true_eq] at h
    rcases List.mem_cons.1 hy with rfl | hy
    · exact h.1
    · have := rise_mem h.2 y hy; omega

/-! ### Numbers marked and held -/
def markI : Nat → Int → List Int
  | 0, _ => []
  | n + 1, k => k :: markI n (k + 1)
theorem markI_length : ∀ (n : Nat) (k : Int), (markI n k).length = n
  | 0, _ => rfl
  | n + 1, k => by simp [markI, markI_length n (k + 1)]
theorem markI_get : ∀ (n : Nat) (k : Int) (j : Nat), j < n → (markI n k)[j]? = some (k + j)
  | 0, _, _, h => by omega
  | n + 1, k, 0, _ => by simp [markI]
  | n + 1, k, j + 1, h => by simp only [markI, List.getElem?_cons_succ]; rw [markI_get n (k + 1) j (by omega)]; congr 1; push_cast; omega
def markB : Nat → Int → List Bool
  | 0, _ => []
  | n + 1, k => (Int.tmod k 3 == 0) :: markB n (k + 1)
theorem markB_length : ∀ (n : Nat) (k : Int), (markB n k).length = n
  | 0, _ => rfl
  | n + 1, k => by simp [markB, markB_length n (k + 1)]
theorem markB_get : ∀ (n : Nat) (k : Int) (j : Nat), j < n → (markB n k)[j]? = some (Int.tmod (k + j) 3 == 0)
  | 0, _, _, h => by omega
  | n + 1, k, 0, _ => by simp [markB]
  | n + 1, k, j + 1, h => by simp only [markB, List.getElem?_cons_succ]; rw [markB_get n (k + 1) j (by omega)]; congr 2; congr 1; push_cast; omega
end Go.Proofs.Ytoaglacdklmafaa.Kit
namespace Go.Proofs.Ytoaglacdklmafaa.Model
open Go.RowKit Go.Proofs.YtoaglacdklmafaaW.PrintWords Go.Proofs.Ytoaglacdklmafaa.Kit

/-- Numbers within bounds, all of them. -/
def allIn (lo hi : Int) : List Int → Bool
  | [] => true
  | y :: ys => decide (lo ≤ y ∧ y ≤ hi) && allIn lo hi ys
theorem allIn_mem {lo hi : Int} : ∀ {ys : List Int}, allIn lo hi ys = true → ∀ y ∈ ys, lo ≤ y ∧ y ≤ hi
  | [], _, y, hy => by cases hy
  | z :: zs, h, y, hy => by
    simp only [allIn, Bool.and_eq_true, decide_eq_true_eq] at h
    rcases List.mem_cons.1 hy with rfl | hy
    · exact h.1
    · exact allIn_mem h.2 y hy
theorem allIn_get {lo hi : Int} {ys : List Int} (h : allIn lo hi ys = true) {i : Nat} {y : Int} (hy : ys[i]? = some y) : lo ≤ y ∧ y ≤ hi := allIn_mem h y (List.mem_of_getElem? hy)
theorem allIn_of {lo hi : Int} : ∀ {ys : List Int}, (∀ y ∈ ys, lo ≤ y ∧ y ≤ hi) → allIn lo hi ys = true
  | [], _ => rfl
  | z :: zs, h => by simp only [allIn, Bool.and_eq_true, decide_eq_true_eq]; exact ⟨h z (by simp), allIn_of fun y hy => h y (by simp [hy])⟩

/-- The greatest number of 'false' behind each other; m: so far; n: those just before. -/
def down : List Bool → Int → Int → Int
  | [], m, _ => m
  | b :: bs, m, n => if b = true then down bs (max m 0) 0 else down bs (max m (n + 1)) (n + 1)

def mixStep (a x : Int) : Int := Int.tmod (wrap64 ((Int.tmod (wrap64 ((wrap64 ((wrap64 (33 * a)) + x)) + 11)) 1000003) * (wrap64 ((wrap64 (Int.tdiv (Int.tmod (wrap64 ((wrap64 ((wrap64 (33 * a)) + x)) + 11)) 1000003) 16)) + 7)))) 1000003
def mix (l : List Int) : Int := (l ++ [5, 2]).foldl mixStep (wrap64 (6007 + (l.length : Int)))
def keyOk (l : List Int) : Bool := decide (l.length ≤ 8) && allIn 0 1000000000 l

def gridOk (x y z : Int) : Bool := decide (1 ≤ x ∧ x ≤ 8 ∧ 1 ≤ y ∧ y ≤ 6 ∧ 1 ≤ z ∧ z ≤ 5 ∧ x * y * z ≤ 120)
theorem grid_prod {x y z : Int} (hx : 1 ≤ x ∧ x ≤ 8) (hy : 1 ≤ y ∧ y ≤ 6) (hz : 1 ≤ z ∧ z ≤ 5) : 1 ≤ x * y ∧ x * y ≤ 48 ∧ 1 ≤ x * y * z ∧ x * y * z ≤ 240 := by
  rcases (by omega : x = 1 ∨ x = 2 ∨ x = 3 ∨ x = 4 ∨ x = 5 ∨ x = 6 ∨ x = 7 ∨ x = 8) with rfl | rfl | rfl | rfl | rfl | rfl | rfl | rfl <;>
    rcases (by omega : z = 1 ∨ z = 2 ∨ z = 3 ∨ z = 4 ∨ z = 5) with rfl | rfl | rfl | rfl | rfl <;> omega
theorem grid_ok {x y z : Int} (h : gridOk x y z = true) : (1 ≤ x ∧ x ≤ 8) ∧ (1 ≤ y ∧ y ≤ 6) ∧ (1 ≤ z ∧ z ≤ 5) ∧ 1 ≤ x * y ∧ x * y ≤ 48 ∧ 1 ≤ x * y * z ∧ x * y * z ≤ 120 := by
  simp only [gridOk, decide_eq_true_eq] at h
  have := grid_prod (x := x) (y := y) (z := z) (by omega) (by omega) (by omega)
  omega
theorem grid_wrap {x y z : Int} (hx : 1 ≤ x ∧ x ≤ 8) (hy : 1 ≤ y ∧ y ≤ 6) (hz : 1 ≤ z ∧ z ≤ 5) : wrap64 (wrap64 (x * y) * z) = x * y * z := by
  have := grid_prod hx hy hz
  rw [wrap_id (x := x * y) (by omega) (by omega), wrap_id (by omega) (by omega)]
def holeOk (gx gy gz x y z t g : Int) : Bool := decide (0 ≤ x ∧ x < 10 * gx ∧ 0 ≤ y ∧ y < 10 * gy ∧ 0 ≤ z ∧ z < 10 * gz ∧ 1 ≤ t ∧ t ≤ 1000 ∧ 0 ≤ g ∧ g ≤ 1000)
def benchOk (x y : Int) (l : List Int) : Bool := decide (1 ≤ x ∧ x ≤ 8 ∧ 1 ≤ y ∧ y ≤ 6 ∧ (l.length : Int) = x * y) && allIn (-1000000) 1000000 l
theorem bench_prod {x y : Int} (hx : 1 ≤ x ∧ x ≤ 8) (hy : 1 ≤ y ∧ y ≤ 6) : 1 ≤ x * y ∧ x * y ≤ 48 := by
  rcases (by omega : x = 1 ∨ x = 2 ∨ x = 3 ∨ x = 4 ∨ x = 5 ∨ x = 6 ∨ x = 7 ∨ x = 8) with rfl | rfl | rfl | rfl | rfl | rfl | rfl | rfl <;> omega
theorem bench_len {x y : Int} {l : List Int} (h : benchOk x y l = true) : (1 ≤ x ∧ x ≤ 8) ∧ (1 ≤ y ∧ y ≤ 6) ∧ (l.length : Int) = x * y ∧ 1 ≤ l.length ∧ l.length ≤ 48 := by
  simp only [benchOk, Bool.and_eq_true, decide_eq_true_eq] at h
  have := bench_prod (x := x) (y := y) (by omega) (by omega)
  omega
theorem bench_vals {x y : Int} {l : List Int} (h : benchOk x y l = true) : allIn (-1000000) 1000000 l = true := by
  simp only [benchOk, Bool.and_eq_true] at h; exact h.2
def rowHolds (l : List Int) : Bool := decide (rd l 0 = wrap64 (wrap64 (rd l 2 + rd l 4) + rd l 6)) && (rd l 1 == wrap64 (wrap64 (rd l 3 + rd l 5) + rd l 7))
def rowOk (l : List Int) : Bool := decide (l.length = 12) && allIn 0 100000000000 l
def rowsOk : List (List Int) → Bool
  | [] => true
  | y :: ys => rowOk y && rowsOk ys
theorem rowsOk_mem : ∀ {ls : List (List Int)}, rowsOk ls = true → ∀ y ∈ ls, rowOk y = true
  | z :: zs, h, y, hy => by
    simp only [rowsOk, Bool.and_eq_true] at h
    rcases List.mem_cons.1 hy with rfl | hy
    · exact h.1
    · exact rowsOk_mem h.2 y hy
theorem row_len {y : List Int} (h : rowOk y = true) : y.length = 12 := by simp [rowOk] at h; exact h.1
theorem row_rd {y : List Int} (h : rowOk y = true) (i : Nat) (hi : i < 12) : 0 ≤ rd y (i : Int) ∧ rd y (i : Int) ≤ 100000000000 := by
  have hl := row_len h
  simp only [rowOk, Bool.and_eq_true] at h
  have hg : y[i]? = some (y[i]'(by omega)) := List.getElem?_eq_getElem (by omega)
  rw [rd_get hg]
  exact allIn_get h.2 hg
def piles : List (List Int) → Int → Int
  | [], m => m
  | y :: ys, m => piles ys (max m (rd y 10))
/-- The first row that doesn't balance, from index i on. -/
def imbal : List (List Int) → Nat → Int → Int → Nat
  | [], i, _, _ => i
  | y :: ys, i, t, m => if rowHolds y = true ∧ rd y 10 = t + (rd y 4 - rd y 8) ∧ rd y 11 = m + (rd y 5 - rd y 9) then imbal ys (i + 1) (rd y 10) (rd y 11) else i
def machOk (a b : Int) : Bool := decide (0 ≤ a ∧ a ≤ 100 ∧ 0 ≤ b ∧ b ≤ 100)
/-- The states of a machine: d shifts, from shift s on; 'now': is it ready? -/
def states (f r key : Int) : Nat → Int → Bool → List Bool
  | 0, _, _ => []
  | d + 1, s, now => now :: states f r key d (s + 1) (if Int.tmod (mix [key, s, 3, 100]) 100 < (if now = true then f else r) then !now else now)
theorem states_length (f r key : Int) : ∀ (d : Nat) (s : Int) (now : Bool), (states f r key d s now).length = d
  | 0, _, _ => rfl
  | d + 1, s, now => by simp [states, states_length]
/-- Tonnes and losses of a bench. -/
def lossWaste : List Int → List Bool → Int → Int → Int × Int
  | v :: vs, b :: bs, l, w => if b = true then lossWaste vs bs l (w + max 0 (-v)) else lossWaste vs bs (l + max 0 v) w
  | _, _, l, w => (l, w)
def dugSum : List Int → List Bool → Int → Int
  | v :: vs, b :: bs, s => dugSum vs bs (if b = true then s + v else s)
  | _, _, s => s
def modelOk (x y z : Int) (t g r : List Int) : Bool := gridOk x y z && decide ((t.length : Int) = x * y * z ∧ (g.length : Int) = x * y * z ∧ (r.length : Int) = x * y * z) && (allIn 0 10000 t && (allIn 0 1000 g && allIn 0 4 r))
theorem sq_bd {d : Int} (h : -1000 ≤ d ∧ d ≤ 1000) : 0 ≤ d * d ∧ d * d ≤ 1000000 := by
  rcases Int.le_total 0 d with h0 | h0
  · exact ⟨Int.mul_nonneg h0 h0, Int.mul_le_mul h.2 h.2 h0 (by omega)⟩
  · rw [← Int.neg_mul_neg]
    exact ⟨Int.mul_nonneg (by omega) (by omega), Int.mul_le_mul (a := -d) (b := -d) (c := 1000) (d := 1000) (by omega) (by omega) (by omega) (by omega)⟩
/-- The square of the distance of a place from the middle of a block's place. -/
def farOf (px py pz x y z : Int) : Int := (x - 10 * px - 5) * (x - 10 * px - 5) + (y - 10 * py - 5) * (y - 10 * py - 5) + (z - 10 * pz - 5) * (z - 10 * pz - 5)
theorem far_nonneg (px py pz x y z : Int) : 0 ≤ farOf px py pz x y z := by
  have h : ∀ d : Int, 0 ≤ d * d := fun d => by
    rcases Int.le_total 0 d with h0 | h0
    · exact Int.mul_nonneg h0 h0
    · rw [← Int.neg_mul_neg]; exact Int.mul_nonneg (by omega) (by omega)
  have a := h (x - 10 * px - 5); have b := h (y - 10 * py - 5); have c := h (z - 10 * pz - 5)
  unfold farOf; omega
theorem far_wrap {px py pz x y z : Int} (hx : 0 ≤ px ∧ px ≤ 10) (hy : 0 ≤ py ∧ py ≤ 10) (hz : 0 ≤ pz ∧ pz ≤ 10) (kx : 0 ≤ x ∧ x ≤ 100) (ky : 0 ≤ y ∧ y ≤ 100) (kz : 0 ≤ z ∧ z ≤ 100) :
    wrap64 ((wrap64 ((wrap64 ((wrap64 ((wrap64 (x - (wrap64 (10 * px)))) - 5)) * (wrap64 ((wrap64 (x - (wrap64 (10 * px)))) - 5)))) + (wrap64 ((wrap64 ((wrap64 (y - (wrap64 (10 * py)))) - 5)) * (wrap64 ((wrap64 (y - (wrap64 (10 * py)))) - 5)))))) + (wrap64 ((wrap64 ((wrap64 (z - (wrap64 (10 * pz)))) - 5)) * (wrap64 ((wrap64 (z - (wrap64 (10 * pz)))) - 5))))) = farOf px py pz x y z := by
  have a := sq_bd (d := x - 10 * px - 5) (by omega)
  have b := sq_bd (d := y - 10 * py - 5) (by omega)
  have c := sq_bd (d := z - 10 * pz - 5) (by omega)
  rw [wrap_id (x := 10 * px) (by omega) (by omega), wrap_id (x := 10 * py) (by omega) (by omega), wrap_id (x := 10 * pz) (by omega) (by omega),
    wrap_id (x := x - 10 * px) (by omega) (by omega), wrap_id (x := y - 10 * py) (by omega) (by omega), wrap_id (x := z - 10 * pz) (by omega) (by omega),
    wrap_id (x := x - 10 * px - 5) (by omega) (by omega), wrap_id (x := y - 10 * py - 5) (by omega) (by omega), wrap_id (x := z - 10 * pz - 5) (by omega) (by omega),
    wrap_id (x := (x - 10 * px - 5) * (x - 10 * px - 5)) (by omega) (by omega), wrap_id (x := (y - 10 * py - 5) * (y - 10 * py - 5)) (by omega) (by omega), wrap_id (x := (z - 10 * pz - 5) * (z - 10 * pz - 5)) (by omega) (by omega),
    wrap_id (x := (x - 10 * px - 5) * (x - 10 * px - 5) + (y - 10 * py - 5) * (y - 10 * py - 5)) (by omega) (by omega), wrap_id (by omega) (by omega)]
  rfl
def near {α : Type} (far : α → Int) : List α → Int → Int → Int → Int
  | [], _, best, _ => best
  | h :: hs, i, best, least => if least < 0 ∨ far h < least then near far hs (i + 1) i (far h) else near far hs (i + 1) best least
def hasBlock (x y z i : Int) : Bool := gridOk x y z && decide (0 ≤ i ∧ i < x * y * z)
theorem place_of {x y z i : Int} (h : hasBlock x y z i = true) : (0 ≤ i % x ∧ i % x < x) ∧ (0 ≤ i / x % y ∧ i / x % y < y) ∧ (0 ≤ i / x / y ∧ i / x / y < z) ∧ 0 ≤ i / x ∧ i / x ≤ 120 := by
  simp only [hasBlock, Bool.and_eq_true, decide_eq_true_eq] at h
  have hb := grid_ok h.1
  have hi := h.2
  have h1 : 0 ≤ i / x := Int.ediv_nonneg (by omega) (by omega)
  have h2 : i / x < y * z := by
    apply Int.ediv_lt_of_lt_mul (by omega)
    rw [Int.mul_comm (y * z) x, ← Int.mul_assoc]; exact hi.2
  have h3 : i / x / y < z := by
    apply Int.ediv_lt_of_lt_mul (by omega)
    rw [Int.mul_comm z y]; exact h2
  have h4 : i / x ≤ i := Int.ediv_le_self _ (by omega)
  exact ⟨⟨Int.emod_nonneg _ (by omega), Int.emod_lt_of_pos _ (by omega)⟩, ⟨Int.emod_nonneg _ (by omega), Int.emod_lt_of_pos _ (by omega)⟩, ⟨Int.ediv_nonneg h1 (by omega), h3⟩, h1, by omega⟩
/-- A fraction in lowest terms, of numbers that are not negative. -/
def low (a b : Int) : Int × Int := (a / (Nat.gcd a.natAbs b.natAbs : Int), b / (Nat.gcd a.natAbs b.natAbs : Int))
theorem low_bd {a b : Int} (ha : 0 ≤ a) (hb : 0 < b) : 1 ≤ (Nat.gcd a.natAbs b.natAbs : Int) ∧ 0 ≤ (low a b).1 ∧ (low a b).1 ≤ a ∧ 1 ≤ (low a b).2 ∧ (low a b).2 ≤ b ∧ a = (low a b).1 * (Nat.gcd a.natAbs b.natAbs : Int) ∧ b = (low a b).2 * (Nat.gcd a.natAbs b.natAbs : Int) := by
  have hg : 0 < Nat.gcd a.natAbs b.natAbs := Nat.gcd_pos_of_pos_right _ (by omega)
  have d1 : (Nat.gcd a.natAbs b.natAbs : Int) ∣ a := Int.natAbs_dvd_natAbs.1 (by simpa using Nat.gcd_dvd_left a.natAbs b.natAbs)
  have d2 : (Nat.gcd a.natAbs b.natAbs : Int) ∣ b := Int.natAbs_dvd_natAbs.1 (by simpa using Nat.gcd_dvd_right a.natAbs b.natAbs)
  have e1 := Int.ediv_mul_cancel d1
  have e2 := Int.ediv_mul_cancel d2
  have h1 : 0 ≤ a / (Nat.gcd a.natAbs b.natAbs : Int) := Int.ediv_nonneg ha (by omega)
  have h2 : a / (Nat.gcd a.natAbs b.natAbs : Int) ≤ a := Int.ediv_le_self _ ha
  have h3 : 0 ≤ b / (Nat.gcd a.natAbs b.natAbs : Int) := Int.ediv_nonneg (by omega) (by omega)
  have h4 : b / (Nat.gcd a.natAbs b.natAbs : Int) ≤ b := Int.ediv_le_self _ (by omega)
  refine ⟨by omega, h1, h2, ?_, h4, e1.symm, e2.symm⟩
  by_cases h5 : b / (Nat.gcd a.natAbs b.natAbs : Int) = 0
  · rw [h5] at e2; omega
  · show 1 ≤ b / (Nat.gcd a.natAbs b.natAbs : Int); omega
theorem low_scale {a b c : Int} (ha : 0 ≤ a) (hb : 0 < b) (hc : 0 < c) : low (a * c) (b * c) = low a b := by
  have hg : 0 < Nat.gcd a.natAbs b.natAbs := Nat.gcd_pos_of_pos_right _ (by omega)
  have e : (Nat.gcd (a * c).natAbs (b * c).natAbs : Int) = (Nat.gcd a.natAbs b.natAbs : Int) * c := by
    rw [Int.natAbs_mul, Int.natAbs_mul, Nat.gcd_mul_right, Int.natCast_mul]; congr 1; omega
  simp only [low, e]
  rw [Int.mul_ediv_mul_of_pos_left _ _ hc, Int.mul_ediv_mul_of_pos_left _ _ hc]
/-- Ready and down, behind one shift more. -/
def turn (f r : Int) (p : Int × Int) : Int × Int := (p.1 * (100 - f) + p.2 * r, p.1 * f + p.2 * (100 - r))
def turns (f r : Int) : Nat → Int × Int → Int × Int
  | 0, p => p
  | n + 1, p => turns f r n (turn f r p)
def begin_ (c : Bool) : Int × Int := if c = true then (1, 0) else (0, 1)
theorem turn_bd {f r : Int} {p : Int × Int} (hm : machOk f r = true) (h1 : 0 ≤ p.1) (h2 : 0 ≤ p.2) :
    (0 ≤ p.1 * (100 - f) ∧ p.1 * (100 - f) ≤ p.1 * 100) ∧ (0 ≤ p.2 * r ∧ p.2 * r ≤ p.2 * 100) ∧ (0 ≤ p.1 * f ∧ p.1 * f ≤ p.1 * 100) ∧ (0 ≤ p.2 * (100 - r) ∧ p.2 * (100 - r) ≤ p.2 * 100) ∧ p.1 * f = p.1 * 100 - p.1 * (100 - f) ∧ p.2 * (100 - r) = p.2 * 100 - p.2 * r := by
  simp only [machOk, decide_eq_true_eq] at hm
  have m : ∀ {a b : Int}, 0 ≤ a → 0 ≤ b → b ≤ 100 → 0 ≤ a * b ∧ a * b ≤ a * 100 := fun ha hb hc => ⟨Int.mul_nonneg ha hb, Int.mul_le_mul_of_nonneg_left hc ha⟩
  refine ⟨m h1 (by omega) (by omega), m h2 (by omega) (by omega), m h1 (by omega) (by omega), m h2 (by omega) (by omega), ?_, ?_⟩
  · rw [Int.mul_sub]; omega
  · rw [Int.mul_sub]
theorem turn_sum {f r : Int} {p : Int × Int} (hm : machOk f r = true) (h1 : 0 ≤ p.1) (h2 : 0 ≤ p.2) : 0 ≤ (turn f r p).1 ∧ 0 ≤ (turn f r p).2 ∧ (turn f r p).1 + (turn f r p).2 = (p.1 + p.2) * 100 := by
  have := turn_bd hm h1 h2
  simp only [turn]; omega
theorem turns_sum {f r : Int} (hm : machOk f r = true) : ∀ (n : Nat) (p : Int × Int), 0 ≤ p.1 → 0 ≤ p.2 → 0 ≤ (turns f r n p).1 ∧ 0 ≤ (turns f r n p).2 ∧ (turns f r n p).1 + (turns f r n p).2 = (p.1 + p.2) * 100 ^ n
  | 0, p, h1, h2 => by simp [turns, h1, h2]
  | n + 1, p, h1, h2 => by
    have a := turn_sum hm h1 h2
    have b := turns_sum hm n (turn f r p) a.1 a.2.1
    simp only [turns]
    refine ⟨b.1, b.2.1, ?_⟩
    rw [b.2.2, a.2.2, Int.pow_succ, Int.mul_assoc, Int.mul_comm 100 (100 ^ n)]
theorem pow_ge (n : Nat) : 1 ≤ (100 : Int) ^ n := by have := Int.pow_pos (n := 100) (m := n) (by omega); omega
/-- What the shifts tell: the first number of each. -/
def tells (f r : Int) : Nat → Int × Int → List Int
  | 0, _ => []
  | n + 1, p => (turn f r p).1 :: tells f r n (turn f r p)
theorem tells_length (f r : Int) : ∀ (n : Nat) (p : Int × Int), (tells f r n p).length = n
  | 0, _ => rfl
  | n + 1, p => by simp [tells, tells_length f r n]
theorem tells_get (f r : Int) : ∀ (n : Nat) (p : Int × Int) (s : Nat), s < n → (tells f r n p)[s]? = some (turns f r (s + 1) p).1
  | 0, _, s, h => by omega
  | n + 1, p, 0, h => by simp [tells, turns]
  | n + 1, p, s + 1, h => by simp only [tells, List.getElem?_cons_succ]; rw [tells_get f r n (turn f r p) s (by omega)]; rfl
/-- The sum of the first j numbers, each brought to 100 to the power e. -/
def meanSum (C : Nat → Int) (e : Nat) : Nat → Int
  | 0 => 0
  | j + 1 => meanSum C e j + C j * 100 ^ (e - j)
theorem meanSum_bd {C : Nat → Int} {e : Nat} (hC : ∀ s, s ≤ 5 → 0 ≤ C s ∧ C s ≤ 100 ^ s) : ∀ j, j ≤ e + 1 → j ≤ 5 → (0 ≤ meanSum C e j ∧ meanSum C e j ≤ j * 100 ^ e) ∧ (j ≤ e → 0 ≤ C j * 100 ^ (e - j) ∧ C j * 100 ^ (e - j) ≤ 100 ^ e)
  | 0, h, h5 => ⟨by simp [meanSum], fun _ => by
      have c := hC 0 (by omega)
      refine ⟨Int.mul_nonneg c.1 (by have := pow_ge (e - 0); omega), ?_⟩
      have h : C 0 * 100 ^ (e - 0) ≤ 1 * 100 ^ (e - 0) := Int.mul_le_mul_of_nonneg_right (by simpa using c.2) (by have := pow_ge (e - 0); omega)
      simpa using h⟩
  | j + 1, h, h5 => by
    have a := meanSum_bd (e := e) hC j (by omega) (by omega)
    have a2 := a.2 (by omega)
    refine ⟨?_, fun hj => ?_⟩
    · simp only [meanSum]
      have e1 : ((j + 1 : Nat) : Int) * 100 ^ e = (j : Int) * 100 ^ e + 100 ^ e := by rw [Int.natCast_succ, Int.add_mul, Int.one_mul]
      omega
    · have c := hC (j + 1) h5
      have hp := pow_ge (e - (j + 1))
      refine ⟨Int.mul_nonneg c.1 (by omega), ?_⟩
      have q : C (j + 1) * 100 ^ (e - (j + 1)) ≤ 100 ^ (j + 1) * 100 ^ (e - (j + 1)) := Int.mul_le_mul_of_nonneg_right c.2 (by omega)
      rw [← Int.pow_add (100 : Int) (j + 1) (e - (j + 1)), show j + 1 + (e - (j + 1)) = e by omega] at q
      exact q
theorem meanSum_scale (C : Nat → Int) (e d : Nat) : ∀ j, j ≤ e + 1 → meanSum C (e + d) j = meanSum C e j * 100 ^ d
  | 0, h => by simp [meanSum]
  | j + 1, h => by
    simp only [meanSum]
    rw [meanSum_scale C e d j (by omega), Int.add_mul, Int.mul_assoc (C j), ← Int.pow_add, show e + d - j = e - j + d by omega]
theorem pow_div (j : Nat) (h : j ≤ 4) : (100000000 : Int) / 100 ^ j = 100 ^ (4 - j) := by
  rcases (by omega : j = 0 ∨ j = 1 ∨ j = 2 ∨ j = 3 ∨ j = 4) with rfl | rfl | rfl | rfl | rfl <;> decide
/-- A row of cells and rows of them, as bytes: the last row first. -/
def rowBytes (bs : List Bool) : List Int := bs.map fun b => if b = true then 35 else 46
def digBytes (d : List Bool) (w : Nat) : Nat → List Int
  | 0 => []
  | y + 1 => rowBytes ((d.drop (y * w)).take w) ++ 10 :: digBytes d w y
theorem str_snoc (xs : List Int) (x : Int) (b : UInt8) (h : UInt8.ofNat x.toNat = b) : strOfNums xs ++ (⟨#[b]⟩ : ByteArray) = strOfNums (xs ++ [x]) := by
  apply ByteArray.ext
  simp [strOfNums, ByteArray.data_append, h]
theorem grid_row {w y : Nat} {n : Nat} (hw : 1 ≤ w ∧ w ≤ 8) (hy : y < 6) (hn : (y + 1) * w ≤ n) (h48 : n ≤ 48) : y * w ≤ 48 ∧ (y + 1) * w = y * w + w ∧ y * w + w ≤ n := by
  rw [Nat.add_mul, Nat.one_mul] at hn ⊢; omega
end Go.Proofs.Ytoaglacdklmafaa.Model
namespace Go.Proofs.Ytoaglacdklmafaa.PureFnExactEstimateBlock
open Go.RowKit Go.Proofs.Ytoaglacdklmafaa.PFnExactEstimateBlock Go.Proofs.YtoaglacdklmafaaW.PrintWords Go.Proofs.YtoaglacdklmafaaW.PrintLast Go.Proofs.YtoaglacdklmafaaW.PrintMore Go.Proofs.Ytoaglacdklmafaa.Kit Go.Proofs.Ytoaglacdklmafaa.Model
theorem laws_szHoleS_eq (l : List S91) (a : Int) (h0 : 0 ≤ a) (ha : a ≤ 1048576) (hn : l.length ≤ 9223372036854775807) : laws_szHoleS.f l a = some (if a < l.length then -1 else a - l.length) := by
  simp only [laws_szHoleS.f]
  rw [wrap_id (by omega) (by omega)]
  split
  · rw [if_pos (by omega)]
  · rw [if_neg (by omega)]
def toHole (y : S91) : S89 := ⟨y.f0, y.f1, y.f2, y.f3, y.f4⟩
theorem laws_toHoleS_l0 (l : List S91) (hn : l.length ≤ 9223372036854775807) : ∀ (ys : List S91) (i : Nat) (x : List S89), l.drop i = ys → x.length = (l.map toHole).length → x.take i = (l.map toHole).take i → Ev (fun k => laws_toHoleS.l0 k l x i) (l.map toHole)
  | [], i, x, h, hl, ht => Ev.next0 fun k => by
      have h0 := drop_nil h
      have h1 : (l.map toHole).length = l.length := by simp
      simp only [laws_toHoleS.l0]
      rw [if_neg (by omega), copy_end hl ht (by omega)]
  | y :: ys, i, x, h, hl, ht => by
      obtain ⟨h1, h2, h3⟩ := drop_cons h
      have hm : (l.map toHole).length = l.length := by simp
      have hg : (l.map toHole)[i]? = some (toHole y) := by simp [h2]
      obtain ⟨c1, c2⟩ := copy_step hg hl ht
      refine Ev.next1 (laws_toHoleS_l0 l hn ys (i + 1) (x.set i (toHole y)) h3 c1 c2) fun k hk => ?_
      have e : rd_T91 l i = y := getD_drop h
      simp only [laws_toHoleS.l0, e, laws_toHole.f, Option.bind_some]
      rw [if_pos (by omega), if_pos (by omega), if_pos (by omega), wrap_succ h1 hn, toNat_cast]
      exact hk
theorem laws_toHoleS_ev (l : List S91) (hn : l.length ≤ 1048576) : Ev (fun k => laws_toHoleS.f k l) (l.map toHole) :=
  Ev.of1 (laws_toHoleS_l0 l (by omega) l 0 (List.replicate ((l.length : Int)).toNat z89) rfl (by simp) rfl) fun k hk => by
    simp only [laws_toHoleS.f]
    rw [if_pos (by omega), if_pos (by omega)]
    exact hk
theorem laws_eqHole_self (a b c d e : Int) : laws_eqHole.f a b c d e a b c d e = some true := by simp [laws_eqHole.f]
theorem laws_eqHoleS_l0 (l : List S89) (hn : l.length ≤ 9223372036854775807) : ∀ (ys : List S89) (i : Nat), l.drop i = ys → Ev (fun k => laws_eqHoleS.l0 k l l i) true
  | [], i, h => Ev.next0 fun k => by
      have h0 := drop_nil h
      simp only [laws_eqHoleS.l0]
      rw [if_neg (by omega)]
  | y :: ys, i, h => by
      obtain ⟨h1, h2, h3⟩ := drop_cons h
      refine Ev.next1 (laws_eqHoleS_l0 l hn ys (i + 1) h3) fun k hk => ?_
      simp only [laws_eqHoleS.l0, laws_eqHole_self, Option.bind_some]
      rw [if_pos (by omega), if_pos (by omega), if_pos (by omega), if_pos (by simp), wrap_succ h1 hn]
      exact hk
theorem laws_eqHoleS_ev (l : List S89) (hn : l.length ≤ 9223372036854775807) : Ev (fun k => laws_eqHoleS.f k l l) true :=
  Ev.of1 (laws_eqHoleS_l0 l hn l 0 rfl) fun k hk => by
    simp only [laws_eqHoleS.f]
    rw [if_pos (by simp)]
    exact hk
theorem spec_l1In_eq (a lo hi : Int) : spec_l1In.f a lo hi = some (decide (lo ≤ a ∧ a ≤ hi)) := by
  unfold spec_l1In.f
  split
  · congr 1; simp; omega
  · congr 1; simp; omega
theorem spec_grGood_eq (x y z : Int) : spec_grGood.f x y z = some (gridOk x y z) := by
  simp only [spec_grGood.f, spec_l1In_eq, Option.bind_some, decide_eq_true_eq, gridOk]
  by_cases hx : 1 ≤ x ∧ x ≤ 8
  · rw [if_pos hx]
    by_cases hy : 1 ≤ y ∧ y ≤ 6
    · rw [if_pos hy]
      by_cases hz : 1 ≤ z ∧ z ≤ 5
      · rw [if_pos hz, grid_wrap hx hy hz]; congr 1; simp [hx, hy, hz]
      · rw [if_neg hz]; congr 1; symm; simp; omega
    · rw [if_neg hy]; congr 1; symm; simp; omega
  · rw [if_neg hx]; congr 1; symm; simp; omega
theorem spec_grCount_eq (x y z : Int) (h : gridOk x y z = true) : spec_grCount.f x y z = some (x * y * z) := by
  have hb := grid_ok h
  simp only [spec_grCount.f]
  rw [grid_wrap hb.1 hb.2.1 hb.2.2.1]
theorem spec_grHas_eq (x y z i : Int) : spec_grHas.f x y z i = some (hasBlock x y z i) := by
  simp only [spec_grHas.f, spec_grGood_eq, Option.bind_some, hasBlock]
  by_cases h : gridOk x y z = true
  · have hb := grid_ok h
    rw [if_pos h, spec_grCount_eq x y z h, Option.bind_some, wrap_id (by omega) (by omega), spec_l1In_eq, Option.bind_some]
    simp only [h, Bool.true_and]; congr 1; rw [decide_eq_decide]; omega
  · rw [if_neg h]; simp [h]
theorem spec_bhHole_eq (gx gy gz x y z t g : Int) (hg : gridOk gx gy gz = true) : spec_bhHole.f gx gy gz x y z t g = some (holeOk gx gy gz x y z t g) := by
  have hb := grid_ok hg
  simp only [spec_bhHole.f, spec_l1In_eq, Option.bind_some, decide_eq_true_eq, holeOk]
  rw [wrap_id (x := 10 * gx) (by omega) (by omega), wrap_id (x := 10 * gx - 1) (by omega) (by omega), wrap_id (x := 10 * gy) (by omega) (by omega), wrap_id (x := 10 * gy - 1) (by omega) (by omega), wrap_id (x := 10 * gz) (by omega) (by omega), wrap_id (x := 10 * gz - 1) (by omega) (by omega)]
  repeat' split
  all_goals first | (congr 1; rw [decide_eq_decide]; omega) | (congr 1; symm; simp; omega)
def holesOk (gx gy gz : Int) : List S89 → Bool
  | [] => true
  | h :: hs => holeOk gx gy gz h.f0 h.f1 h.f2 h.f3 h.f4 && holesOk gx gy gz hs
theorem holesOk_mem {gx gy gz : Int} : ∀ {l : List S89}, holesOk gx gy gz l = true → ∀ h ∈ l, holeOk gx gy gz h.f0 h.f1 h.f2 h.f3 h.f4 = true
  | q :: qs, h, y, hy => by
    simp only [holesOk, Bool.and_eq_true] at h
    rcases List.mem_cons.1 hy with rfl | hy
    · exact h.1
    · exact holesOk_mem h.2 y hy
theorem impl_areHoles_l0 (gx gy gz : Int) (hg : gridOk gx gy gz = true) (l : List S89) (hn : l.length ≤ 9223372036854775807) : ∀ (ys : List S89) (i : Nat), l.drop i = ys → Ev (fun k => impl_areHoles.l0 k l (l.length : Int) i gx gy gz) (holesOk gx gy gz ys)
  | [], i, h => Ev.next0 fun k => by
      have h0 := drop_nil h
      simp only [impl_areHoles.l0, holesOk]
      rw [if_neg (by omega)]
  | y :: ys, i, h => by
      obtain ⟨h1, h2, h3⟩ := drop_cons h
      have hb := grid_ok hg
      refine Ev.next1 (impl_areHoles_l0 gx gy gz hg l hn ys (i + 1) h3) fun k hk => ?_
      have e : rd_T89 l i = y := getD_drop h
      simp only [impl_areHoles.l0, e]
      rw [if_pos (by omega), if_pos (by omega), if_pos (by omega), wrap_succ h1 hn, wrap_id (x := 10 * gx) (by omega) (by omega), wrap_id (x := 10 * gy) (by omega) (by omega), wrap_id (x := 10 * gz) (by omega) (by omega)]
      by_cases hy : 0 ≤ y.f0 ∧ y.f0 < 10 * gx ∧ 0 ≤ y.f1 ∧ y.f1 < 10 * gy ∧ 0 ≤ y.f2 ∧ y.f2 < 10 * gz ∧ 1 ≤ y.f3 ∧ y.f3 ≤ 1000 ∧ 0 ≤ y.f4 ∧ y.f4 ≤ 1000
      · rw [if_neg (by omega), if_neg (by omega), if_neg (by omega), if_neg (by omega), if_neg (by omega), if_neg (by omega), if_neg (by omega), if_neg (by omega), if_neg (by omega), if_neg (by omega), hk]
        simp [holesOk, holeOk, hy]
      · have e2 : holesOk gx gy gz (y :: ys) = false := by
          have : holeOk gx gy gz y.f0 y.f1 y.f2 y.f3 y.f4 = false := decide_eq_false hy
          simp [holesOk, this]
        rw [e2]
        repeat' split
        all_goals first | rfl | (exfalso; omega)
theorem impl_areHoles_ev (gx gy gz : Int) (hg : gridOk gx gy gz = true) (l : List S89) (hn : l.length ≤ 9223372036854775807) : Ev (fun k => impl_areHoles.f k gx gy gz l) (decide (l.length ≤ 40) && holesOk gx gy gz l) :=
  Ev.of1 (impl_areHoles_l0 gx gy gz hg l hn l 0 rfl) fun k hk => by
    simp only [impl_areHoles.f]
    by_cases h : l.length ≤ 40
    · rw [if_neg (by omega)]; simpa [h] using hk
    · rw [if_pos (by omega)]; simp [h]
-- needs: impl_areHoles spec_bhHole
theorem spec_bhList_l0 (gx gy gz : Int) (hg : gridOk gx gy gz = true) (l : List S89) (hn : l.length ≤ 9223372036854775807) : ∀ (ys : List S89) (i : Nat), l.drop i = ys → Ev (fun k => spec_bhList.l0 k l l (l.length : Int) i gx gy gz) (decide (l.length ≤ 40) && holesOk gx gy gz ys)
  | [], i, h => Ev.next0 fun k => by
      have h0 := drop_nil h
      simp only [spec_bhList.l0, holesOk]
      rw [if_neg (by omega)]; congr 1; simp; omega
  | y :: ys, i, h => by
      obtain ⟨h1, h2, h3⟩ := drop_cons h
      refine Ev.next1 (spec_bhList_l0 gx gy gz hg l hn ys (i + 1) h3) fun k hk => ?_
      have e : rd_T89 l i = y := getD_drop h
      simp only [spec_bhList.l0, e, spec_bhHole_eq gx gy gz _ _ _ _ _ hg, Option.bind_some]
      rw [if_pos (by omega), if_pos (by omega), if_pos (by omega), wrap_succ h1 hn]
      by_cases hy : holeOk gx gy gz y.f0 y.f1 y.f2 y.f3 y.f4 = true
      · rw [if_pos hy, hk]; simp [holesOk, hy]
      · rw [if_neg hy]; simp [holesOk, hy]
theorem spec_bhList_ev (gx gy gz : Int) (hg : gridOk gx gy gz = true) (l : List S89) (hn : l.length ≤ 9223372036854775807) : Ev (fun k => spec_bhList.f k gx gy gz l) (decide (l.length ≤ 40) && holesOk gx gy gz l) :=
  Ev.of1 (spec_bhList_l0 gx gy gz hg l hn l 0 rfl) fun k hk => by simp only [spec_bhList.f]; exact hk
theorem spec_bhAsked_ev (x y z i : Int) (l : List S89) (hn : l.length ≤ 9223372036854775807) : Ev (fun k => spec_bhAsked.f k x y z l i) (hasBlock x y z i && (decide (l.length ≤ 40) && holesOk x y z l)) := by
  by_cases h : hasBlock x y z i = true
  · have hg : gridOk x y z = true := by simp only [hasBlock, Bool.and_eq_true] at h; exact h.1
    refine Ev.of1 (spec_bhList_ev x y z hg l hn) fun k hk => ?_
    simp only [spec_bhAsked.f, spec_grHas_eq, Option.bind_some, hk]
    rw [if_pos h]; simp [h]
  · refine Ev.all fun k => ?_
    simp only [spec_bhAsked.f, spec_grHas_eq, Option.bind_some]
    rw [if_neg h]; simp [h]
theorem spec_bhReach_eq (a : Int) : spec_bhReach.f a = some (decide (0 ≤ a ∧ a ≤ 5)) := by
  simp only [spec_bhReach.f, spec_l1In_eq, Option.bind_some]
def meanRes (t tg : Int) : Int × Int × Bool := if t = 0 then (0, 0, false) else ((low tg t).1, (low tg t).2, true)
theorem spec_moPart_l0 (x y : Int) : ∀ (n b a : Nat), b ≤ n → 0 < a + b → Ev (fun k => spec_moPart.l0 k x y (a : Int) (b : Int)) (wrap64 (Int.tdiv x (Nat.gcd a b : Int)), wrap64 (Int.tdiv y (Nat.gcd a b : Int)))
  | n, 0, a, hn, h => Ev.next0 fun k => by
      simp only [spec_moPart.l0, Nat.gcd_zero_right]
      rw [if_neg (by omega), if_neg (by omega)]
  | 0, b + 1, a, hn, h => by omega
  | n + 1, b + 1, a, hn, h => by
      have hlt := Nat.mod_lt a (show 0 < b + 1 by omega)
      refine Ev.next1 (spec_moPart_l0 x y n (a % (b + 1)) (b + 1) (by omega) (by omega)) fun k hk => ?_
      have em : Int.tmod (a : Int) ((b + 1 : Nat) : Int) = ((a % (b + 1) : Nat) : Int) := by
        rw [Int.tmod_eq_emod_of_nonneg (by omega)]; exact (Int.natCast_emod a (b + 1)).symm
      have eg : Nat.gcd a (b + 1) = Nat.gcd (b + 1) (a % (b + 1)) := by
        rw [Nat.gcd_comm a (b + 1), Nat.gcd_rec (b + 1) a, Nat.gcd_comm]
      simp only [spec_moPart.l0]
      rw [if_pos (by omega), if_neg (by omega), em]
      rw [eg]; exact hk
theorem spec_moPart_ev (a b : Int) (ha : 0 ≤ a) (hb : 0 < b) (ha' : a ≤ 4611686018427387904) (hb' : b ≤ 4611686018427387904) : Ev (fun k => spec_moPart.f k a b) (low a b) := by
  have hl := low_bd ha hb
  have h := spec_moPart_l0 a b b.natAbs b.natAbs a.natAbs (by omega) (by omega)
  rw [Int.tdiv_eq_ediv_of_nonneg ha, Int.tdiv_eq_ediv_of_nonneg (by omega)] at h
  have e : (wrap64 (a / (Nat.gcd a.natAbs b.natAbs : Int)), wrap64 (b / (Nat.gcd a.natAbs b.natAbs : Int))) = low a b := by
    rw [show a / (Nat.gcd a.natAbs b.natAbs : Int) = (low a b).1 from rfl, show b / (Nat.gcd a.natAbs b.natAbs : Int) = (low a b).2 from rfl, wrap_id (by omega) (by omega), wrap_id (by omega) (by omega)]
  rw [e] at h
  refine Ev.of1 h fun k hk => ?_
  simp only [spec_moPart.f]
  rw [show ((a.natAbs : Nat) : Int) = a by omega, show ((b.natAbs : Nat) : Int) = b by omega] at hk
  exact hk
def atOf (gx gy x y z : Int) : Int := wrap64 (wrap64 (wrap64 (wrap64 (z * gy) + y) * gx) + x)
theorem spec_grAt_eq (gx gy gz x y z : Int) (hg : gridOk gx gy gz = true) (hx : 0 ≤ x ∧ x < gx) (hy : 0 ≤ y ∧ y < gy) (hz : 0 ≤ z ∧ z < gz) : spec_grAt.f gx gy gz x y z = some (atOf gx gy x y z) := by
  have hb := grid_ok hg
  simp only [spec_grAt.f, spec_l1In_eq, Option.bind_some, decide_eq_true_eq]
  rw [wrap_id (x := gx - 1) (by omega) (by omega), wrap_id (x := gy - 1) (by omega) (by omega), wrap_id (x := gz - 1) (by omega) (by omega), if_pos (by omega), if_pos (by omega), if_pos (by omega)]
  rfl
def holeAt (gx gy x y z : Int) : Int := atOf gx gy (Int.tdiv x 10) (Int.tdiv y 10) (Int.tdiv z 10)
theorem tdiv10 {x : Int} (h : 0 ≤ x) : Int.tdiv x 10 = x / 10 := Int.tdiv_eq_ediv_of_nonneg h
theorem spec_bhBlock_eq (gx gy gz x y z t g : Int) (hg : gridOk gx gy gz = true) (hh : holeOk gx gy gz x y z t g = true) : spec_bhBlock.f gx gy gz x y z t g = some (holeAt gx gy x y z) := by
  have hb := grid_ok hg
  simp only [holeOk, decide_eq_true_eq] at hh
  have h1 := tdiv10 (x := x) (by omega)
  have h2 := tdiv10 (x := y) (by omega)
  have h3 := tdiv10 (x := z) (by omega)
  simp only [spec_bhBlock.f, holeAt, h1, h2, h3]
  rw [wrap_id (x := x / 10) (by omega) (by omega), wrap_id (x := y / 10) (by omega) (by omega), wrap_id (x := z / 10) (by omega) (by omega), spec_grAt_eq gx gy gz _ _ _ hg (by omega) (by omega) (by omega)]
  rfl
theorem spec_l1Most_eq (a b : Int) : spec_l1Most.f a b = some (max a b) := by
  unfold spec_l1Most.f
  split <;> (congr 1; omega)
theorem spec_l1Abs_eq (a : Int) (h0 : -9223372036854775807 ≤ a) (h1 : a ≤ 9223372036854775807) : spec_l1Abs.f a = some (max a (-a)) := by
  simp only [spec_l1Abs.f, spec_l1Most_eq, Option.bind_some]
  rw [wrap_id (by omega) (by omega)]
theorem spec_grX_eq (x y z i : Int) (h : hasBlock x y z i = true) : spec_grX.f x y z i = some (i % x) := by
  have hp := place_of h
  simp only [hasBlock, Bool.and_eq_true, decide_eq_true_eq] at h
  have hb := grid_ok h.1
  simp only [spec_grX.f]
  rw [if_neg (by omega), Int.tmod_eq_emod_of_nonneg (by omega)]
theorem spec_grY_eq (x y z i : Int) (h : hasBlock x y z i = true) : spec_grY.f x y z i = some (i / x % y) := by
  have hp := place_of h
  simp only [hasBlock, Bool.and_eq_true, decide_eq_true_eq] at h
  have hb := grid_ok h.1
  simp only [spec_grY.f]
  rw [if_neg (by omega), if_neg (by omega), Int.tdiv_eq_ediv_of_nonneg (by omega), wrap_id (by omega) (by omega), Int.tmod_eq_emod_of_nonneg (by omega)]
theorem spec_grZ_eq (x y z i : Int) (h : hasBlock x y z i = true) : spec_grZ.f x y z i = some (i / x / y) := by
  have hp := place_of h
  simp only [hasBlock, Bool.and_eq_true, decide_eq_true_eq] at h
  have hb := grid_ok h.1
  have e1 : Int.tdiv i x = i / x := Int.tdiv_eq_ediv_of_nonneg (by omega)
  have e3 : wrap64 (i / x) = i / x := wrap_id (by omega) (by omega)
  have e5 : Int.tdiv (i / x) y = i / x / y := Int.tdiv_eq_ediv_of_nonneg (by omega)
  have e6 : wrap64 (i / x / y) = i / x / y := wrap_id (by omega) (by omega)
  simp only [spec_grZ.f, e1, e3, e5, e6]
  rw [if_neg (by omega), if_neg (by omega)]
/-- How many steps lie between two blocks. -/
def stepsOf (gx gy a b : Int) : Int := max (a % gx - b % gx) (-(a % gx - b % gx)) + max (a / gx % gy - b / gx % gy) (-(a / gx % gy - b / gx % gy)) + max (a / gx / gy - b / gx / gy) (-(a / gx / gy - b / gx / gy))
theorem steps_bd {gx gy gz a b : Int} (ha : hasBlock gx gy gz a = true) (hb : hasBlock gx gy gz b = true) : 0 ≤ stepsOf gx gy a b ∧ stepsOf gx gy a b ≤ 20 := by
  have p := place_of ha; have q := place_of hb
  have hg : gridOk gx gy gz = true := by simp only [hasBlock, Bool.and_eq_true] at ha; exact ha.1
  have hg := grid_ok hg
  unfold stepsOf
  generalize a % gx = a1 at *; generalize b % gx = b1 at *; generalize a / gx % gy = a2 at *; generalize b / gx % gy = b2 at *; generalize a / gx / gy = a3 at *; generalize b / gx / gy = b3 at *
  omega
theorem spec_grSteps_eq (gx gy gz a b : Int) (ha : hasBlock gx gy gz a = true) (hb : hasBlock gx gy gz b = true) : spec_grSteps.f gx gy gz a b = some (stepsOf gx gy a b) := by
  have p := place_of ha; have q := place_of hb
  have hg : gridOk gx gy gz = true := by have h1 := ha; simp only [hasBlock, Bool.and_eq_true] at h1; exact h1.1
  have hg := grid_ok hg
  simp only [spec_grSteps.f, spec_grX_eq gx gy gz a ha, spec_grX_eq gx gy gz b hb, spec_grY_eq gx gy gz a ha, spec_grY_eq gx gy gz b hb, spec_grZ_eq gx gy gz a ha, spec_grZ_eq gx gy gz b hb, Option.bind_some, stepsOf]
  generalize a % gx = a1 at *; generalize b % gx = b1 at *; generalize a / gx % gy = a2 at *; generalize b / gx % gy = b2 at *; generalize a / gx / gy = a3 at *; generalize b / gx / gy = b3 at *
  rw [wrap_id (x := a1 - b1) (by omega) (by omega), wrap_id (x := a2 - b2) (by omega) (by omega), wrap_id (x := a3 - b3) (by omega) (by omega), spec_l1Abs_eq _ (by omega) (by omega), spec_l1Abs_eq _ (by omega) (by omega), spec_l1Abs_eq _ (by omega) (by omega)]
  simp only [Option.bind_some]
  rw [wrap_id (x := max (a1 - b1) (-(a1 - b1)) + max (a2 - b2) (-(a2 - b2))) (by omega) (by omega), wrap_id (by omega) (by omega)]
theorem atOf_has {gx gy gz x y z : Int} (hg : gridOk gx gy gz = true) (hx : 0 ≤ x ∧ x < gx) (hy : 0 ≤ y ∧ y < gy) (hz : 0 ≤ z ∧ z < gz) : hasBlock gx gy gz (atOf gx gy x y z) = true := by
  have hb := grid_ok hg
  have a1 : 0 ≤ z * gy := Int.mul_nonneg (by omega) (by omega)
  have a2 : (z + 1) * gy ≤ gz * gy := Int.mul_le_mul_of_nonneg_right (by omega) (by omega)
  have a3 : (z + 1) * gy = z * gy + gy := by rw [Int.add_mul, Int.one_mul]
  have a4 : gz * gy ≤ 5 * 6 := Int.mul_le_mul (by omega) (by omega) (by omega) (by omega)
  have b1 : 0 ≤ (z * gy + y) * gx := Int.mul_nonneg (by omega) (by omega)
  have b2 : (z * gy + y + 1) * gx ≤ gz * gy * gx := Int.mul_le_mul_of_nonneg_right (by omega) (by omega)
  have b3 : (z * gy + y + 1) * gx = (z * gy + y) * gx + gx := by rw [Int.add_mul (z * gy + y) 1, Int.one_mul]
  have b4 : gz * gy * gx = gx * gy * gz := by rw [Int.mul_comm (gz * gy) gx, Int.mul_comm gz gy, ← Int.mul_assoc]
  have e : atOf gx gy x y z = (z * gy + y) * gx + x := by
    unfold atOf
    rw [wrap_id (x := z * gy) (by omega) (by omega), wrap_id (x := z * gy + y) (by omega) (by omega), wrap_id (x := (z * gy + y) * gx) (by omega) (by omega), wrap_id (by omega) (by omega)]
  rw [e]
  simp only [hasBlock, hg, Bool.true_and, decide_eq_true_eq]; omega
theorem holeAt_has {gx gy gz x y z t g : Int} (hg : gridOk gx gy gz = true) (hh : holeOk gx gy gz x y z t g = true) : hasBlock gx gy gz (holeAt gx gy x y z) = true := by
  simp only [holeOk, decide_eq_true_eq] at hh
  unfold holeAt
  rw [tdiv10 (by omega), tdiv10 (by omega), tdiv10 (by omega)]
  exact atOf_has hg (by omega) (by omega) (by omega)
/-- The weight of a hole for block i. -/
def wOf (gx gy i : Int) (h : S89) : Int := 60 / (stepsOf gx gy (holeAt gx gy h.f0 h.f1 h.f2) i + 1)
def estW (gx gy i reach : Int) : List S89 → Int
  | [] => 0
  | h :: hs => (if stepsOf gx gy (holeAt gx gy h.f0 h.f1 h.f2) i ≤ reach then wOf gx gy i h else 0) + estW gx gy i reach hs
def estG (gx gy i reach : Int) : List S89 → Int
  | [] => 0
  | h :: hs => (if stepsOf gx gy (holeAt gx gy h.f0 h.f1 h.f2) i ≤ reach then wOf gx gy i h * h.f4 else 0) + estG gx gy i reach hs
theorem w_bd {gx gy gz i : Int} {h : S89} (hg : gridOk gx gy gz = true) (hi : hasBlock gx gy gz i = true) (hh : holeOk gx gy gz h.f0 h.f1 h.f2 h.f3 h.f4 = true) : (0 ≤ wOf gx gy i h ∧ wOf gx gy i h ≤ 60) ∧ 0 ≤ wOf gx gy i h * h.f4 ∧ wOf gx gy i h * h.f4 ≤ 60000 := by
  have hs := steps_bd (holeAt_has hg hh) hi
  have h1 : 0 ≤ wOf gx gy i h := Int.ediv_nonneg (by omega) (by omega)
  have h2 : wOf gx gy i h ≤ 60 := Int.ediv_le_self _ (by omega)
  simp only [holeOk, decide_eq_true_eq] at hh
  exact ⟨⟨h1, h2⟩, Int.mul_nonneg h1 (by omega), Int.mul_le_mul (a := wOf gx gy i h) (b := h.f4) (c := 60) (d := 1000) h2 (by omega) (by omega) (by omega)⟩
def estBlock (gx gy gz i reach : Int) (l : List S89) : Int × Int × Bool := if hasBlock gx gy gz i = true ∧ (l.length ≤ 40 ∧ holesOk gx gy gz l = true) ∧ (0 ≤ reach ∧ reach ≤ 5) then meanRes (estW gx gy i reach l) (estG gx gy i reach l) else (0, 0, false)
-- needs: impl_areHoles est_model
theorem spec_bhEstimate_l0 (gx gy gz i reach : Int) (hg : gridOk gx gy gz = true) (hi : hasBlock gx gy gz i = true) (l : List S89) (hn : l.length ≤ 1048576) (hl : holesOk gx gy gz l = true) : ∀ (ys : List S89) (j : Nat) (g w : Int), l.drop j = ys → j + ys.length = l.length →
    (0 ≤ w ∧ w ≤ 60 * (j : Int)) → (0 ≤ g ∧ g ≤ 60000 * (j : Int)) → Ev (fun k => spec_bhEstimate.l0 k i reach g w l (l.length : Int) j gx gy gz) (meanRes (w + estW gx gy i reach ys) (g + estG gx gy i reach ys))
  | [], j, g, w, h, hj, hw, hgr => by
      have h0 := drop_nil h
      simp only [List.length_nil] at hj
      by_cases hz : w = 0
      · refine Ev.next0 fun k => ?_
        simp only [spec_bhEstimate.l0, estW, estG, meanRes, Int.add_zero]
        rw [if_neg (by omega), if_pos hz, if_pos hz]
      · refine Ev.next1 (spec_moPart_ev g w hgr.1 (by omega) (by omega) (by omega)) fun k hk => ?_
        simp only [spec_bhEstimate.l0, estW, estG, meanRes, Int.add_zero, hk, Option.bind_some]
        rw [if_neg (by omega), if_neg hz, if_neg hz]
  | y :: ys, j, g, w, h, hj, hw, hgr => by
      obtain ⟨h1, h2, h3⟩ := drop_cons h
      simp only [List.length_cons] at hj
      have oh := holesOk_mem hl y (List.mem_of_getElem? h2)
      have oy := w_bd hg hi oh
      have e : rd_T89 l j = y := getD_drop h
      have eb := spec_bhBlock_eq gx gy gz y.f0 y.f1 y.f2 y.f3 y.f4 hg oh
      have es := spec_grSteps_eq gx gy gz _ i (holeAt_has hg oh) hi
      have hs := steps_bd (holeAt_has hg oh) hi
      have ed : (60 : Int) / (stepsOf gx gy (holeAt gx gy y.f0 y.f1 y.f2) i + 1) = wOf gx gy i y := rfl
      by_cases hc : stepsOf gx gy (holeAt gx gy y.f0 y.f1 y.f2) i ≤ reach
      · refine Ev.next1 (spec_bhEstimate_l0 gx gy gz i reach hg hi l hn hl ys (j + 1) (g + wOf gx gy i y * y.f4) (w + wOf gx gy i y) h3 (by omega) (by omega) (by omega)) fun k hk => ?_
        simp only [spec_bhEstimate.l0, e, eb, es, Option.bind_some, estW, estG, if_pos hc]
        rw [if_pos (by omega), if_pos (by omega), if_pos (by omega), wrap_id (x := stepsOf gx gy (holeAt gx gy y.f0 y.f1 y.f2) i + 1) (by omega) (by omega), if_neg (by omega), wrap_succ h1 (by omega), ed, wrap_id (x := wOf gx gy i y) (by omega) (by omega), wrap_id (x := wOf gx gy i y * y.f4) (by omega) (by omega), wrap_id (x := g + wOf gx gy i y * y.f4) (by omega) (by omega), wrap_id (x := w + wOf gx gy i y) (by omega) (by omega), ← Int.add_assoc, ← Int.add_assoc]
        exact hk
      · refine Ev.next1 (spec_bhEstimate_l0 gx gy gz i reach hg hi l hn hl ys (j + 1) g w h3 (by omega) (by omega) (by omega)) fun k hk => ?_
        simp only [spec_bhEstimate.l0, e, eb, es, Option.bind_some, estW, estG, if_neg hc]
        rw [if_pos (by omega), if_pos (by omega), if_pos (by omega), wrap_succ h1 (by omega), Int.zero_add, Int.zero_add]
        exact hk
theorem spec_bhEstimate_ev (gx gy gz i reach : Int) (hg : gridOk gx gy gz = true) (hi : hasBlock gx gy gz i = true) (l : List S89) (hn : l.length ≤ 1048576) (hl : holesOk gx gy gz l = true) : Ev (fun k => spec_bhEstimate.f k gx gy gz l i reach) (meanRes (estW gx gy i reach l) (estG gx gy i reach l)) := by
  have h0 := spec_bhEstimate_l0 gx gy gz i reach hg hi l hn hl l 0 0 0 rfl (by omega) (by omega) (by omega)
  rw [Int.zero_add, Int.zero_add] at h0
  exact Ev.of1 h0 fun k hk => by simp only [spec_bhEstimate.f]; exact hk
theorem spec_EstimateBlock_ev (gx gy gz i reach : Int) (l : List S89) (hn : l.length ≤ 1048576) : Ev (fun k => spec_EstimateBlock.f k gx gy gz l i reach) (estBlock gx gy gz i reach l) := by
  have ha := spec_bhAsked_ev gx gy gz i l (by omega)
  by_cases h : hasBlock gx gy gz i = true ∧ l.length ≤ 40 ∧ holesOk gx gy gz l = true
  · have hg : gridOk gx gy gz = true := by have h1 := h.1; simp only [hasBlock, Bool.and_eq_true] at h1; exact h1.1
    refine (ev_and ha <| ev_one (spec_bhEstimate_ev gx gy gz i reach hg h.1 l hn h.2.2)).ev fun k ⟨h1, h2⟩ => ?_
    simp only [spec_EstimateBlock.f, spec_bhReach_eq, h1, h2, Option.bind_some]
    rw [if_pos (by simp [h]), estBlock]
    by_cases hr : 0 ≤ reach ∧ reach ≤ 5
    · rw [if_pos (by simpa using hr), if_pos ⟨h.1, h.2, hr⟩]
    · rw [if_neg (by simpa using hr), if_neg (fun q => hr q.2.2)]
  · refine (ev_one ha).ev fun k h1 => ?_
    simp only [spec_EstimateBlock.f, h1, Option.bind_some]
    rw [if_neg (by simpa using h), estBlock, if_neg (fun q => h ⟨q.1, q.2.1⟩)]
theorem impl_IsGrid_eq (x y z : Int) : impl_IsGrid.f x y z = some (gridOk x y z) := by
  simp only [impl_IsGrid.f, gridOk]
  by_cases hx : 1 ≤ x ∧ x ≤ 8
  · rw [if_pos (by omega), if_pos (by omega)]
    by_cases hy : 1 ≤ y ∧ y ≤ 6
    · rw [if_pos (by omega), if_pos (by omega)]
      by_cases hz : 1 ≤ z ∧ z ≤ 5
      · rw [if_pos (by omega), if_pos (by omega), grid_wrap hx hy hz]; congr 1; simp [hx, hy, hz]
      · have e : decide (1 ≤ x ∧ x ≤ 8 ∧ 1 ≤ y ∧ y ≤ 6 ∧ 1 ≤ z ∧ z ≤ 5 ∧ x * y * z ≤ 120) = false := by simp; omega
        rw [e]; split
        · rw [if_neg (by omega)]
        · rfl
    · have e : decide (1 ≤ x ∧ x ≤ 8 ∧ 1 ≤ y ∧ y ≤ 6 ∧ 1 ≤ z ∧ z ≤ 5 ∧ x * y * z ≤ 120) = false := by simp; omega
      rw [e]; split
      · rw [if_neg (by omega)]
      · rfl
  · have e : decide (1 ≤ x ∧ x ≤ 8 ∧ 1 ≤ y ∧ y ≤ 6 ∧ 1 ≤ z ∧ z ≤ 5 ∧ x * y * z ≤ 120) = false := by simp; omega
    rw [e]; split
    · rw [if_neg (by omega)]
    · rfl
theorem impl_blocksOf_eq (x y z : Int) (h : gridOk x y z = true) : impl_blocksOf.f x y z = some (x * y * z) := by
  have hb := grid_ok h
  simp only [impl_blocksOf.f]
  rw [grid_wrap hb.1 hb.2.1 hb.2.2.1]
theorem impl_hasBlock_eq (x y z i : Int) : impl_hasBlock.f x y z i = some (hasBlock x y z i) := by
  simp only [impl_hasBlock.f, impl_IsGrid_eq, Option.bind_some, hasBlock]
  by_cases h : gridOk x y z = true
  · rw [if_pos h, impl_blocksOf_eq x y z h, Option.bind_some]
    simp only [h, Bool.true_and]
    split
    · congr 1; rw [decide_eq_decide]; omega
    · congr 1; symm; simp; omega
  · rw [if_neg h]; simp [h]
-- needs: spec_grAt
theorem impl_blockAt_eq (gx gy gz x y z : Int) : impl_blockAt.f gx gy gz x y z = some (atOf gx gy x y z) := rfl
-- needs: spec_bhBlock
theorem impl_blockOfHole_eq (gx gy gz x y z t g : Int) (hg : gridOk gx gy gz = true) (hh : holeOk gx gy gz x y z t g = true) : impl_blockOfHole.f gx gy gz x y z t g = some (holeAt gx gy x y z) := by
  have hb := grid_ok hg
  simp only [holeOk, decide_eq_true_eq] at hh
  have h1 := tdiv10 (x := x) (by omega)
  have h2 := tdiv10 (x := y) (by omega)
  have h3 := tdiv10 (x := z) (by omega)
  simp only [impl_blockOfHole.f, holeAt, h1, h2, h3]
  rw [wrap_id (x := x / 10) (by omega) (by omega), wrap_id (x := y / 10) (by omega) (by omega), wrap_id (x := z / 10) (by omega) (by omega), impl_blockAt_eq]
  rfl
theorem impl_abs_eq (a : Int) (h0 : -9223372036854775807 ≤ a) (h1 : a ≤ 9223372036854775807) : impl_abs.f a = some (max a (-a)) := by
  simp only [impl_abs.f, mx_eq]
  rw [wrap_id (by omega) (by omega)]
theorem impl_lowest_l0 (x y : Int) : ∀ (n b a : Nat), b ≤ n → 0 < a + b → Ev (fun k => impl_lowest.l0 k x y (a : Int) (b : Int)) (wrap64 (Int.tdiv x (Nat.gcd a b : Int)), wrap64 (Int.tdiv y (Nat.gcd a b : Int)))
  | n, 0, a, hn, h => Ev.next0 fun k => by
      simp only [impl_lowest.l0, Nat.gcd_zero_right]
      rw [if_pos (by omega), if_neg (by omega)]
  | 0, b + 1, a, hn, h => by omega
  | n + 1, b + 1, a, hn, h => by
      have hlt := Nat.mod_lt a (show 0 < b + 1 by omega)
      refine Ev.next1 (impl_lowest_l0 x y n (a % (b + 1)) (b + 1) (by omega) (by omega)) fun k hk => ?_
      have em : Int.tmod (a : Int) ((b + 1 : Nat) : Int) = ((a % (b + 1) : Nat) : Int) := by
        rw [Int.tmod_eq_emod_of_nonneg (by omega)]; exact (Int.natCast_emod a (b + 1)).symm
      have eg : Nat.gcd a (b + 1) = Nat.gcd (b + 1) (a % (b + 1)) := by
        rw [Nat.gcd_comm a (b + 1), Nat.gcd_rec (b + 1) a, Nat.gcd_comm]
      simp only [impl_lowest.l0]
      rw [if_neg (by omega), em]
      rw [eg]; exact hk
theorem impl_lowest_ev (a b : Int) (ha : 0 ≤ a) (hb : 0 < b) (ha' : a ≤ 4611686018427387904) (hb' : b ≤ 4611686018427387904) : Ev (fun k => impl_lowest.f k a b) (low a b) := by
  have hl := low_bd ha hb
  have h := impl_lowest_l0 a b b.natAbs b.natAbs a.natAbs (by omega) (by omega)
  rw [Int.tdiv_eq_ediv_of_nonneg ha, Int.tdiv_eq_ediv_of_nonneg (by omega)] at h
  have e : (wrap64 (a / (Nat.gcd a.natAbs b.natAbs : Int)), wrap64 (b / (Nat.gcd a.natAbs b.natAbs : Int))) = low a b := by
    rw [show a / (Nat.gcd a.natAbs b.natAbs : Int) = (low a b).1 from rfl, show b / (Nat.gcd a.natAbs b.natAbs : Int) = (low a b).2 from rfl, wrap_id (by omega) (by omega), wrap_id (by omega) (by omega)]
  rw [e] at h
  refine Ev.of1 h fun k hk => ?_
  simp only [impl_lowest.f, impl_abs_eq a (by omega) (by omega), Option.bind_some]
  rw [show ((a.natAbs : Nat) : Int) = max a (-a) by omega, show ((b.natAbs : Nat) : Int) = b by omega] at hk
  exact hk
theorem impl_placeOf_eq (x y z i : Int) (h : hasBlock x y z i = true) : impl_placeOf.f x y z i = some (i % x, i / x % y, i / x / y) := by
  have hp := place_of h
  simp only [hasBlock, Bool.and_eq_true, decide_eq_true_eq] at h
  have hb := grid_ok h.1
  have e1 : Int.tdiv i x = i / x := Int.tdiv_eq_ediv_of_nonneg (by omega)
  have e2 : Int.tmod i x = i % x := Int.tmod_eq_emod_of_nonneg (by omega)
  have e3 : wrap64 (i / x) = i / x := wrap_id (by omega) (by omega)
  have e4 : Int.tmod (i / x) y = i / x % y := Int.tmod_eq_emod_of_nonneg (by omega)
  have e5 : Int.tdiv (i / x) y = i / x / y := Int.tdiv_eq_ediv_of_nonneg (by omega)
  have e6 : wrap64 (i / x / y) = i / x / y := wrap_id (by omega) (by omega)
  simp only [impl_placeOf.f, e1, e2, e3, e4, e5, e6]
  rw [if_neg (by omega), if_neg (by omega)]
-- needs: spec_grSteps
theorem impl_stepsBetween_eq (gx gy gz a b : Int) (ha : hasBlock gx gy gz a = true) (hb : hasBlock gx gy gz b = true) : impl_stepsBetween.f gx gy gz a b = some (stepsOf gx gy a b) := by
  have p := place_of ha; have q := place_of hb
  have hg : gridOk gx gy gz = true := by have h1 := ha; simp only [hasBlock, Bool.and_eq_true] at h1; exact h1.1
  have hg := grid_ok hg
  simp only [impl_stepsBetween.f, impl_placeOf_eq gx gy gz a ha, impl_placeOf_eq gx gy gz b hb, Option.bind_some, stepsOf]
  generalize a % gx = a1 at *; generalize b % gx = b1 at *; generalize a / gx % gy = a2 at *; generalize b / gx % gy = b2 at *; generalize a / gx / gy = a3 at *; generalize b / gx / gy = b3 at *
  rw [wrap_id (x := b1 - a1) (by omega) (by omega), wrap_id (x := b2 - a2) (by omega) (by omega), wrap_id (x := b3 - a3) (by omega) (by omega), impl_abs_eq _ (by omega) (by omega), impl_abs_eq _ (by omega) (by omega), impl_abs_eq _ (by omega) (by omega)]
  simp only [Option.bind_some]
  rw [show max (b1 - a1) (-(b1 - a1)) = max (a1 - b1) (-(a1 - b1)) by omega, show max (b2 - a2) (-(b2 - a2)) = max (a2 - b2) (-(a2 - b2)) by omega, show max (b3 - a3) (-(b3 - a3)) = max (a3 - b3) (-(a3 - b3)) by omega]
  rw [wrap_id (x := max (a1 - b1) (-(a1 - b1)) + max (a2 - b2) (-(a2 - b2))) (by omega) (by omega), wrap_id (by omega) (by omega)]
theorem impl_estimateBlock_l0 (gx gy gz i reach : Int) (hg : gridOk gx gy gz = true) (hi : hasBlock gx gy gz i = true) (l : List S89) (hn : l.length ≤ 1048576) (hl : holesOk gx gy gz l = true) : ∀ (ys : List S89) (j : Nat) (g w : Int), l.drop j = ys → j + ys.length = l.length →
    (0 ≤ w ∧ w ≤ 60 * (j : Int)) → (0 ≤ g ∧ g ≤ 60000 * (j : Int)) → Ev (fun k => impl_estimateBlock.l0 k i reach g w l (l.length : Int) j gx gy gz) (meanRes (w + estW gx gy i reach ys) (g + estG gx gy i reach ys))
  | [], j, g, w, h, hj, hw, hgr => by
      have h0 := drop_nil h
      simp only [List.length_nil] at hj
      by_cases hz : w = 0
      · refine Ev.next0 fun k => ?_
        simp only [impl_estimateBlock.l0, estW, estG, meanRes, Int.add_zero]
        rw [if_neg (by omega), if_pos hz, if_pos hz]
      · refine Ev.next1 (impl_lowest_ev g w hgr.1 (by omega) (by omega) (by omega)) fun k hk => ?_
        simp only [impl_estimateBlock.l0, estW, estG, meanRes, Int.add_zero, hk, Option.bind_some]
        rw [if_neg (by omega), if_neg hz, if_neg hz]
  | y :: ys, j, g, w, h, hj, hw, hgr => by
      obtain ⟨h1, h2, h3⟩ := drop_cons h
      simp only [List.length_cons] at hj
      have oh := holesOk_mem hl y (List.mem_of_getElem? h2)
      have oy := w_bd hg hi oh
      have e : rd_T89 l j = y := getD_drop h
      have eb := impl_blockOfHole_eq gx gy gz y.f0 y.f1 y.f2 y.f3 y.f4 hg oh
      have es := impl_stepsBetween_eq gx gy gz _ i (holeAt_has hg oh) hi
      have hs := steps_bd (holeAt_has hg oh) hi
      have ed : (60 : Int) / (stepsOf gx gy (holeAt gx gy y.f0 y.f1 y.f2) i + 1) = wOf gx gy i y := rfl
      by_cases hc : stepsOf gx gy (holeAt gx gy y.f0 y.f1 y.f2) i ≤ reach
      · refine Ev.next1 (impl_estimateBlock_l0 gx gy gz i reach hg hi l hn hl ys (j + 1) (g + wOf gx gy i y * y.f4) (w + wOf gx gy i y) h3 (by omega) (by omega) (by omega)) fun k hk => ?_
        simp only [impl_estimateBlock.l0, e, eb, es, Option.bind_some, estW, estG, if_pos hc]
        rw [if_pos (by omega), if_pos (by omega), if_pos (by omega), wrap_id (x := stepsOf gx gy (holeAt gx gy y.f0 y.f1 y.f2) i + 1) (by omega) (by omega), if_neg (by omega), wrap_succ h1 (by omega), ed, wrap_id (x := wOf gx gy i y) (by omega) (by omega), wrap_id (x := wOf gx gy i y * y.f4) (by omega) (by omega), wrap_id (x := g + wOf gx gy i y * y.f4) (by omega) (by omega), wrap_id (x := w + wOf gx gy i y) (by omega) (by omega), ← Int.add_assoc, ← Int.add_assoc]
        exact hk
      · refine Ev.next1 (impl_estimateBlock_l0 gx gy gz i reach hg hi l hn hl ys (j + 1) g w h3 (by omega) (by omega) (by omega)) fun k hk => ?_
        simp only [impl_estimateBlock.l0, e, eb, es, Option.bind_some, estW, estG, if_neg hc]
        rw [if_pos (by omega), if_pos (by omega), if_pos (by omega), wrap_succ h1 (by omega), Int.zero_add, Int.zero_add]
        exact hk
theorem impl_estimateBlock_ev (gx gy gz i reach : Int) (hg : gridOk gx gy gz = true) (hi : hasBlock gx gy gz i = true) (l : List S89) (hn : l.length ≤ 1048576) (hl : holesOk gx gy gz l = true) : Ev (fun k => impl_estimateBlock.f k gx gy gz l i reach) (meanRes (estW gx gy i reach l) (estG gx gy i reach l)) := by
  have h0 := impl_estimateBlock_l0 gx gy gz i reach hg hi l hn hl l 0 0 0 rfl (by omega) (by omega) (by omega)
  rw [Int.zero_add, Int.zero_add] at h0
  exact Ev.of1 h0 fun k hk => by simp only [impl_estimateBlock.f]; exact hk
theorem impl_EstimateBlock_ev (gx gy gz i reach : Int) (l : List S89) (hn : l.length ≤ 1048576) : Ev (fun k => impl_EstimateBlock.f k gx gy gz l i reach) (estBlock gx gy gz i reach l) := by
  by_cases hb : hasBlock gx gy gz i = true
  · have hg : gridOk gx gy gz = true := by have h1 := hb; simp only [hasBlock, Bool.and_eq_true] at h1; exact h1.1
    have ha := impl_areHoles_ev gx gy gz hg l (by omega)
    by_cases h : l.length ≤ 40 ∧ holesOk gx gy gz l = true
    · refine (ev_and ha <| ev_one (impl_estimateBlock_ev gx gy gz i reach hg hb l hn h.2)).ev fun k ⟨h1, h2⟩ => ?_
      simp only [impl_EstimateBlock.f, impl_hasBlock_eq, h1, h2, Option.bind_some]
      rw [if_pos hb, if_pos (by simp [h]), estBlock]
      by_cases hr : 0 ≤ reach ∧ reach ≤ 5
      · rw [if_neg (by omega), if_neg (by omega), if_pos ⟨hb, h, hr⟩]
      · have e2 : ¬ (hasBlock gx gy gz i = true ∧ (l.length ≤ 40 ∧ holesOk gx gy gz l = true) ∧ (0 ≤ reach ∧ reach ≤ 5)) := fun q => hr q.2.2
        by_cases h0 : reach < 0
        · rw [if_pos h0, if_neg e2]
        · rw [if_neg h0, if_pos (by omega), if_neg e2]
    · refine (ev_one ha).ev fun k h1 => ?_
      simp only [impl_EstimateBlock.f, impl_hasBlock_eq, h1, Option.bind_some]
      rw [if_pos hb, if_neg (by simpa using h), estBlock, if_neg (fun q => h q.2.1)]
  · refine Ev.all fun k => ?_
    simp only [impl_EstimateBlock.f, impl_hasBlock_eq, Option.bind_some]
    rw [if_neg hb, estBlock, if_neg (fun q => hb q.1)]
theorem j0_ev (l : List S91) (hn : l.length ≤ 1048576) : Ev (fun k => laws_FnExactEstimateBlock.j0 k l (l.map toHole) false) true :=
  (ev_and (laws_toHoleS_ev l hn) <| ev_one (laws_eqHoleS_ev (l.map toHole) (by simp; omega))).next fun k ⟨h1, h2⟩ => by
    simp [laws_FnExactEstimateBlock.j0, h1, h2]
theorem FnExactEstimateBlock : Stat.FnExactEstimateBlock := by
  intro gx gy gz l i reach _ _ _ hl _ _
  refine Ev.rounds ?_
  by_cases hg : (1048576 : Int) < l.length
  · refine Ev.all fun k => ?_
    simp only [laws_FnExactEstimateBlock.f, laws_szHoleS_eq l 1048576 (by omega) (by omega) hl.1, Option.bind_some]
    rw [if_pos hg, if_pos (by omega)]
  · have hn : l.length ≤ 1048576 := by omega
    refine (ev_and (laws_toHoleS_ev l hn) <| ev_and (j0_ev l hn) <| ev_and (spec_EstimateBlock_ev gx gy gz i reach (l.map toHole) (by simp; omega)) <| ev_one (impl_EstimateBlock_ev gx gy gz i reach (l.map toHole) (by simp; omega))).ev fun k ⟨h1, h2, h3, h4⟩ => ?_
    simp only [laws_FnExactEstimateBlock.f, laws_szHoleS_eq l 1048576 (by omega) (by omega) hl.1, laws_toGrid.f, h1, h3, h4, Option.bind_some]
    rw [if_neg hg, if_neg (by omega)]
    simp [h2]
end Go.Proofs.Ytoaglacdklmafaa.PureFnExactEstimateBlock
namespace Go.Proofs.Ytoaglacdklmafaa.Pure
theorem FnExactEstimateBlock : Stat.FnExactEstimateBlock := PureFnExactEstimateBlock.FnExactEstimateBlock
end Go.Proofs.Ytoaglacdklmafaa.Pure
