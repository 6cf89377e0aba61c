/- The law FnExactStatesOf over numbers and lists: it is true of every input. -/
import Derived.Test.YtkoacjepochjaaaStatFnExactStatesOf
import Derived.Test.YtkoacjepochjaaaWMore
set_option linter.unusedVariables false
set_option linter.unusedSimpArgs false
namespace Go.Proofs.Ytkoacjepochjaaa.Kit
open Go.RowKit Go.Proofs.YtkoacjepochjaaaW.PrintWords Go.Proofs.YtkoacjepochjaaaW.PrintMore

/-! ### Rounds -/
theorem Ev.all {α : Type} {g : Nat → Option α} {r : α} (h : ∀ k, g k = some r) : Ev g r := ⟨0, fun k _ => h k⟩
theorem Ev.of1 {α β : Type} {g : Nat → Option α} {f : Nat → Option β} {r : α} {b : β} (h : Ev f b) (k : ∀ k, f k = some b → g k = some r) : Ev g r := by
  obtain ⟨K, h⟩ := h; exact ⟨K, fun n hn => k n (h n hn)⟩
theorem Ev.of2 {α β γ : Type} {g : Nat → Option α} {f : Nat → Option β} {f' : Nat → Option γ} {r : α} {b : β} {c : γ} (h : Ev f b) (h' : Ev f' c) (k : ∀ k, f k = some b → f' k = some c → g k = some r) : Ev g r := by
  obtain ⟨K, h⟩ := h; obtain ⟨K', h'⟩ := h'; exact ⟨K + K', fun n hn => k n (h n (by omega)) (h' n (by omega))⟩
theorem Ev.of3 {α β γ δ : Type} {g : Nat → Option α} {f : Nat → Option β} {f' : Nat → Option γ} {f'' : Nat → Option δ} {r : α} {b : β} {c : γ} {d : δ} (h : Ev f b) (h' : Ev f' c) (h'' : Ev f'' d)
    (k : ∀ k, f k = some b → f' k = some c → f'' k = some d → g k = some r) : Ev g r := by
  obtain ⟨K, h⟩ := h; obtain ⟨K', h'⟩ := h'; obtain ⟨K'', h''⟩ := h''
  exact ⟨K + K' + K'', fun n hn => k n (h n (by omega)) (h' n (by omega)) (h'' n (by omega))⟩
/-- Two at once: a pair of facts for one number of rounds. -/
def Both {α β : Type} (f : Nat → Option α) (g : Nat → Option β) (a : α) (b : β) : Prop := ∃ K, ∀ k, K ≤ k → f k = some a ∧ g k = some b
theorem Ev.next0 {α : Type} {g : Nat → Option α} {r : α} (h : ∀ k, g (k + 1) = some r) : Ev g r :=
  ⟨1, fun n hn => by obtain ⟨m, rfl⟩ : ∃ m, n = m + 1 := ⟨n - 1, by omega⟩; exact h m⟩
theorem Ev.next1 {α β : Type} {g : Nat → Option α} {f : Nat → Option β} {r : α} {b : β} (h : Ev f b) (k : ∀ k, f k = some b → g (k + 1) = some r) : Ev g r := by
  obtain ⟨K, h⟩ := h
  exact ⟨K + 1, fun n hn => by obtain ⟨m, rfl⟩ : ∃ m, n = m + 1 := ⟨n - 1, by omega⟩; exact k m (h m (by omega))⟩
theorem Ev.next2 {α β γ : Type} {g : Nat → Option α} {f : Nat → Option β} {f' : Nat → Option γ} {r : α} {b : β} {c : γ} (h : Ev f b) (h' : Ev f' c) (k : ∀ k, f k = some b → f' k = some c → g (k + 1) = some r) : Ev g r := by
  obtain ⟨K, h⟩ := h; obtain ⟨K', h'⟩ := h'
  exact ⟨K + K' + 1, fun n hn => by obtain ⟨m, rfl⟩ : ∃ m, n = m + 1 := ⟨n - 1, by omega⟩; exact k m (h m (by omega)) (h' m (by omega))⟩
theorem Ev.next3 {α β γ δ : Type} {g : Nat → Option α} {f : Nat → Option β} {f' : Nat → Option γ} {f'' : Nat → Option δ} {r : α} {b : β} {c : γ} {d : δ} (h : Ev f b) (h' : Ev f' c) (h'' : Ev f'' d)
    (k : ∀ k, f k = some b → f' k = some c → f'' k = some d → g (k + 1) = some r) : Ev g r := by
  obtain ⟨K, h⟩ := h; obtain ⟨K', h'⟩ := h'; obtain ⟨K'', h''⟩ := h''
  exact ⟨K + K' + K'' + 1, fun n hn => by obtain ⟨m, rfl⟩ : ∃ m, n = m + 1 := ⟨n - 1, by omega⟩; exact k m (h m (by omega)) (h' m (by omega)) (h'' m (by omega))⟩
theorem Ev.uniq {α : Type} {g : Nat → Option α} {r s : α} (h : Ev g r) (k : Ev g s) : r = s := by
  obtain ⟨K, h⟩ := h; obtain ⟨K', k⟩ := k
  have a := h (K + K') (by omega); have b := k (K + K') (by omega)
  rw [a] at b; exact Option.some.inj b

/-- From some number of rounds on. -/
def Evt (p : Nat → Prop) : Prop := ∃ K, ∀ k, K ≤ k → p k
theorem ev_one {α : Type} {f : Nat → Option α} {a : α} (h : Ev f a) : Evt (fun k => f k = some a) := h
theorem ev_and {α : Type} {f : Nat → Option α} {a : α} {p : Nat → Prop} (h : Ev f a) (h' : Evt p) : Evt (fun k => f k = some a ∧ p k) := by
  obtain ⟨K, h⟩ := h; obtain ⟨K', h'⟩ := h'; exact ⟨K + K', fun n hn => ⟨h n (by omega), h' n (by omega)⟩⟩
theorem Evt.ev {α : Type} {g : Nat → Option α} {r : α} {p : Nat → Prop} (h : Evt p) (k : ∀ k, p k → g k = some r) : Ev g r := by
  obtain ⟨K, h⟩ := h; exact ⟨K, fun n hn => k n (h n hn)⟩
theorem Evt.next {α : Type} {g : Nat → Option α} {r : α} {p : Nat → Prop} (h : Evt p) (k : ∀ k, p k → g (k + 1) = some r) : Ev g r := by
  obtain ⟨K, h⟩ := h
  exact ⟨K + 1, fun n hn => by obtain ⟨m, rfl⟩ : ∃ m, n = m + 1 := ⟨n - 1, by omega⟩; exact k m (h m (by omega))⟩

/-! ### Whole numbers -/
theorem wrap_id {x : Int} (h0 : -9223372036854775808 ≤ x) (h1 : x ≤ 9223372036854775807) : wrap64 x = x := by unfold wrap64; omega
theorem wrap_succ {i n : Nat} (h : i < n) (hn : n ≤ 9223372036854775807) : wrap64 ((i : Int) + 1) = ((i + 1 : Nat) : Int) := by unfold wrap64; omega
theorem toNat_cast (i : Nat) : ((i : Int)).toNat = i := by omega

theorem mx_eq (a b : Int) : mx a b = max a b := by unfold mx; split <;> omega
theorem mn_eq (a b : Int) : mn a b = min a b := by unfold mn; split <;> omega

/-! ### Lists from an index on -/
theorem drop_cons {α : Type} {xs ys : List α} {y : α} {i : Nat} (h : xs.drop i = y :: ys) : i < xs.length ∧ xs[i]? = some y ∧ xs.drop (i + 1) = ys := by
  have hlt : i < xs.length := by
    by_cases hlt : i < xs.length
    · exact hlt
    · rw [List.drop_of_length_le (by omega)] at h; cases h
  rw [List.drop_eq_getElem_cons hlt] at h
  injection h with h1 h2
  exact ⟨hlt, by rw [List.getElem?_eq_getElem hlt, h1], h2⟩
theorem drop_nil {α : Type} {xs : List α} {i : Nat} (h : xs.drop i = []) : xs.length ≤ i := by simpa using h
theorem getD_drop {α : Type} {xs ys : List α} {y d : α} {i : Nat} (h : xs.drop i = y :: ys) : xs.getD ((i : Int)).toNat d = y := by
  rw [toNat_cast, List.getD_eq_getElem?_getD, (drop_cons h).2.1]; rfl
theorem rd_drop {xs ys : List Int} {y : Int} {i : Nat} (h : xs.drop i = y :: ys) : rd xs (i : Int) = y := getD_drop h
theorem rdOf_drop {α : Type} {xs ys : List α} {y d : α} {i : Nat} (h : xs.drop i = y :: ys) : rdOf d xs (i : Int) = y := getD_drop h
theorem getD_get {α : Type} {xs : List α} {y d : α} {i : Nat} (h : xs[i]? = some y) : xs.getD ((i : Int)).toNat d = y := by
  rw [toNat_cast, List.getD_eq_getElem?_getD, h]; rfl
theorem rd_get {xs : List Int} {y : Int} {i : Nat} (h : xs[i]? = some y) : rd xs (i : Int) = y := getD_get h
theorem rdOf_get {α : Type} {xs : List α} {y d : α} {i : Nat} (h : xs[i]? = some y) : rdOf d xs (i : Int) = y := getD_get h
theorem drop_of_get {α : Type} {xs : List α} {y : α} {i : Nat} (h : xs[i]? = some y) : xs.drop i = y :: xs.drop (i + 1) := by
  obtain ⟨hl, rfl⟩ := List.getElem?_eq_some_iff.1 h
  exact List.drop_eq_getElem_cons hl

/-- What is left of a, n taken off; -1 if it isn't enough. -/
def left (a : Int) (n : Nat) : Int := if a < (n : Int) then -1 else a - (n : Int)
theorem left_lt {a : Int} {n : Nat} (h : a < (n : Int)) : left a n = -1 := if_pos h
theorem left_ge {a : Int} {n : Nat} (h : (n : Int) ≤ a) : left a n = a - (n : Int) := if_neg (by omega)
/-- How many values rows hold, the rows counted too. -/
def tot : List (List Int) → Nat
  | [] => 0
  | y :: ys => 1 + y.length + tot ys
def sumLen : List (List Int) → Nat
  | [] => 0
  | y :: ys => y.length + sumLen ys
theorem tot_eq : ∀ ls : List (List Int), tot ls = ls.length + sumLen ls
  | [] => rfl
  | y :: ys => by simp only [tot, sumLen, List.length_cons, tot_eq ys]; omega
theorem sumLen_mem : ∀ {ls : List (List Int)} {y : List Int}, y ∈ ls → y.length ≤ sumLen ls
  | z :: zs, y, h => by
    rcases List.mem_cons.1 h with rfl | h
    · simp only [sumLen]; omega
    · have := sumLen_mem h; simp only [sumLen]; omega

/-! ### A list that is copied, element for element -/
theorem copy_step {α : Type} {m x : List α} {y : α} {i : Nat} (hm : m[i]? = some y) (hl : x.length = m.length) (ht : x.take i = m.take i) : (x.set i y).length = m.length ∧ (x.set i y).take (i + 1) = m.take (i + 1) := by
  obtain ⟨hi, rfl⟩ := List.getElem?_eq_some_iff.1 hm
  refine ⟨by simpa using hl, ?_⟩
  apply List.ext_getElem?
  intro j
  have hj : (x.take i)[j]? = (m.take i)[j]? := by rw [ht]
  rw [List.getElem?_take, List.getElem?_take] at *
  by_cases h1 : j < i + 1
  · rw [if_pos h1, if_pos h1]
    by_cases h2 : j = i
    · subst h2
      rw [List.getElem?_set_self (by omega), List.getElem?_eq_getElem hi]
    · rw [List.getElem?_set_ne (by omega)]
      rw [if_pos (by omega), if_pos (by omega)] at hj
      exact hj
  · rw [if_neg h1, if_neg h1]
theorem copy_end {α : Type} {m x : List α} {i : Nat} (hl : x.length = m.length) (ht : x.take i = m.take i) (hi : m.length ≤ i) : x = m := by
  rw [List.take_of_length_le (by omega), List.take_of_length_le hi] at ht; exact ht

/-! ### Strictly increasing lists of 0..n-1 -/
def rise (n : Int) : Int → List Int → Bool
  | _, [] => true
  | p, y :: ys => decide (0 ≤ y ∧ y < n ∧ p < y) && rise n y ys
theorem rise_mem {n : Int} : ∀ {p : Int} {ys : List Int}, rise n p ys = true → ∀ y ∈ ys, 0 ≤ y ∧ y < n ∧ p < y
  | p, [], _, y, hy => by cases hy
  | p, z :: zs, h, y, hy => by
    simp only [rise, Bool.and_eq_true, decide_eq_true_eq] at h
    rcases List.mem_cons.1 hy with rfl | hy
    · exact h.1
    · have := rise_mem h.2 y hy; omega

/-! ### Numbers marked and held -/
def markI : Nat → Int → List Int
  | 0, _ => []
  | n + 1, k => k :: markI n (k + 1)
theorem markI_length : ∀ (n : Nat) (k : Int), (markI n k).length = n
  | 0, _ => rfl
  | n + 1, k => by simp [markI, markI_length n (k + 1)]
theorem markI_get : ∀ (n : Nat) (k : Int) (j : Nat), j < n → (markI n k)[j]? = some (k + j)
  | 0, _, _, h => by omega
  | n + 1, k, 0, _ => by simp [markI]
  | n + 1, k, j + 1, h => by simp only [markI, List.getElem?_cons_succ]; rw [markI_get n (k + 1) j (by omega)]; congr 1; push_cast; omega
def markB : Nat → Int → List Bool
  | 0, _ => []
  | n + 1, k => (Int.tmod k 3 == 0) :: markB n (k + 1)
theorem markB_length : ∀ (n : Nat) (k : Int), (markB n k).length = n
  | 0, _ => rfl
  | n + 1, k => by simp [markB, markB_length n (k + 1)]
theorem markB_get : ∀ (n : Nat) (k : Int) (j : Nat), j < n → (markB n k)[j]? = some (Int.tmod (k + j) 3 == 0)
  | 0, _, _, h => by omega
  | n + 1, k, 0, _ => by simp [markB]
  | n + 1, k, j + 1, h => by simp only [markB, List.getElem?_cons_succ]; rw [markB_get n (k + 1) j (by omega)]; congr 2; congr 1; push_cast; omega
end Go.Proofs.Ytkoacjepochjaaa.Kit
namespace Go.Proofs.Ytkoacjepochjaaa.Model
open Go.RowKit Go.Proofs.YtkoacjepochjaaaW.PrintWords Go.Proofs.Ytkoacjepochjaaa.Kit

/-- Numbers within bounds, all of them. -/
def allIn (lo hi : Int) : List Int → Bool
  | [] => true
  | y :: ys => decide (lo ≤ y ∧ y ≤ hi) && allIn lo hi ys
theorem allIn_mem {lo hi : Int} : ∀ {ys : List Int}, allIn lo hi ys = true → ∀ y ∈ ys, lo ≤ y ∧ y ≤ hi
  | [], _, y, hy => by cases hy
  | z :: zs, h, y, hy => by
    simp only [allIn, Bool.and_eq_true, decide_eq_true_eq] at h
    rcases List.mem_cons.1 hy with rfl | hy
    · exact h.1
    · exact allIn_mem h.2 y hy
theorem allIn_get {lo hi : Int} {ys : List Int} (h : allIn lo hi ys = true) {i : Nat} {y : Int} (hy : ys[i]? = some y) : lo ≤ y ∧ y ≤ hi := allIn_mem h y (List.mem_of_getElem? hy)
theorem allIn_of {lo hi : Int} : ∀ {ys : List Int}, (∀ y ∈ ys, lo ≤ y ∧ y ≤ hi) → allIn lo hi ys = true
  | [], _ => rfl
  | z :: zs, h => by simp only [allIn, Bool.and_eq_true, decide_eq_true_eq]; exact ⟨h z (by simp), allIn_of fun y hy => h y (by simp [hy])⟩

/-- The greatest number of 'false' behind each other; m: so far; n: those just before. -/
def down : List Bool → Int → Int → Int
  | [], m, _ => m
  | b :: bs, m, n => if b = true then down bs (max m 0) 0 else down bs (max m (n + 1)) (n + 1)

def mixStep (a x : Int) : Int := Int.tmod (wrap64 ((Int.tmod (wrap64 ((wrap64 ((wrap64 (33 * a)) + x)) + 11)) 1000003) * (wrap64 ((wrap64 (Int.tdiv (Int.tmod (wrap64 ((wrap64 ((wrap64 (33 * a)) + x)) + 11)) 1000003) 16)) + 7)))) 1000003
def mix (l : List Int) : Int := (l ++ [5, 2]).foldl mixStep (wrap64 (6007 + (l.length : Int)))
def keyOk (l : List Int) : Bool := decide (l.length ≤ 8) && allIn 0 1000000000 l

def gridOk (x y z : Int) : Bool := decide (1 ≤ x ∧ x ≤ 8 ∧ 1 ≤ y ∧ y ≤ 6 ∧ 1 ≤ z ∧ z ≤ 5 ∧ x * y * z ≤ 120)
theorem grid_prod {x y z : Int} (hx : 1 ≤ x ∧ x ≤ 8) (hy : 1 ≤ y ∧ y ≤ 6) (hz : 1 ≤ z ∧ z ≤ 5) : 1 ≤ x * y ∧ x * y ≤ 48 ∧ 1 ≤ x * y * z ∧ x * y * z ≤ 240 := by
  rcases (by omega : x = 1 ∨ x = 2 ∨ x = 3 ∨ x = 4 ∨ x = 5 ∨ x = 6 ∨ x = 7 ∨ x = 8) with rfl | rfl | rfl | rfl | rfl | rfl | rfl | rfl <;>
    rcases (by omega : z = 1 ∨ z = 2 ∨ z = 3 ∨ z = 4 ∨ z = 5) with rfl | rfl | rfl | rfl | rfl <;> omega
theorem grid_ok {x y z : Int} (h : gridOk x y z = true) : (1 ≤ x ∧ x ≤ 8) ∧ (1 ≤ y ∧ y ≤ 6) ∧ (1 ≤ z ∧ z ≤ 5) ∧ 1 ≤ x * y ∧ x * y ≤ 48 ∧ 1 ≤ x * y * z ∧ x * y * z ≤ 120 := by
  simp only [gridOk, decide_eq_true_eq] at h
  have := grid_prod (x := x) (y := y) (z := z) (by omega) (by omega) (by omega)
  omega
theorem grid_wrap {x y z : Int} (hx : 1 ≤ x ∧ x ≤ 8) (hy : 1 ≤ y ∧ y ≤ 6) (hz : 1 ≤ z ∧ z ≤ 5) : wrap64 (wrap64 (x * y) * z) = x * y * z := by
  have := grid_prod hx hy hz
  rw [wrap_id (x := x * y) (by omega) (by omega), wrap_id (by omega) (by omega)]
def holeOk (gx gy gz x y z t g : Int) : Bool := decide (0 ≤ x ∧ x < 10 * gx ∧ 0 ≤ y ∧ y < 10 * gy ∧ 0 ≤ z ∧ z < 10 * gz ∧ 1 ≤ t ∧ t ≤ 1000 ∧ 0 ≤ g ∧ g ≤ 1000)
def benchOk (x y : Int) (l : List Int) : Bool := decide (1 ≤ x ∧ x ≤ 8 ∧ 1 ≤ y ∧ y ≤ 6 ∧ (l.length : Int) = x * y) && allIn (-1000000) 1000000 l
theorem bench_prod {x y : Int} (hx : 1 ≤ x ∧ x ≤ 8) (hy : 1 ≤ y ∧ y ≤ 6) : 1 ≤ x * y ∧ x * y ≤ 48 := by
  rcases (by omega : x = 1 ∨ x = 2 ∨ x = 3 ∨ x = 4 ∨ x = 5 ∨ x = 6 ∨ x = 7 ∨ x = 8) with rfl | rfl | rfl | rfl | rfl | rfl | rfl | rfl <;> omega
theorem bench_len {x y : Int} {l : List Int} (h : benchOk x y l = true) : (1 ≤ x ∧ x ≤ 8) ∧ (1 ≤ y ∧ y ≤ 6) ∧ (l.length : Int) = x * y ∧ 1 ≤ l.length ∧ l.length ≤ 48 := by
  simp only [benchOk, Bool.and_eq_true, decide_eq_true_eq] at h
  have := bench_prod (x := x) (y := y) (by omega) (by omega)
  omega
theorem bench_vals {x y : Int} {l : List Int} (h : benchOk x y l = true) : allIn (-1000000) 1000000 l = true := by
  simp only [benchOk, Bool.and_eq_true] at h; exact h.2
def rowHolds (l : List Int) : Bool := decide (rd l 0 = wrap64 (wrap64 (rd l 2 + rd l 4) + rd l 6)) && (rd l 1 == wrap64 (wrap64 (rd l 3 + rd l 5) + rd l 7))
def rowOk (l : List Int) : Bool := decide (l.length = 12) && allIn 0 100000000000 l
def rowsOk : List (List Int) → Bool
  | [] => true
  | y :: ys => rowOk y && rowsOk ys
theorem rowsOk_mem : ∀ {ls : List (List Int)}, rowsOk ls = true → ∀ y ∈ ls, rowOk y = true
  | z :: zs, h, y, hy => by
    simp only [rowsOk, Bool.and_eq_true] at h
    rcases List.mem_cons.1 hy with rfl | hy
    · exact h.1
    · exact rowsOk_mem h.2 y hy
theorem row_len {y : List Int} (h : rowOk y = true) : y.length = 12 := by simp [rowOk] at h; exact h.1
theorem row_rd {y : List Int} (h : rowOk y = true) (i : Nat) (hi : i < 12) : 0 ≤ rd y (i : Int) ∧ rd y (i : Int) ≤ 100000000000 := by
  have hl := row_len h
  simp only [rowOk, Bool.and_eq_true] at h
  have hg : y[i]? = some (y[i]'(by omega)) := List.getElem?_eq_getElem (by omega)
  rw [rd_get hg]
  exact allIn_get h.2 hg
def piles : List (List Int) → Int → Int
  | [], m => m
  | y :: ys, m => piles ys (max m (rd y 10))
/-- The first row that doesn't balance, from index i on. -/
def imbal : List (List Int) → Nat → Int → Int → Nat
  | [], i, _, _ => i
  | y :: ys, i, t, m => if rowHolds y = true ∧ rd y 10 = t + (rd y 4 - rd y 8) ∧ rd y 11 = m + (rd y 5 - rd y 9) then imbal ys (i + 1) (rd y 10) (rd y 11) else i
def machOk (a b : Int) : Bool := decide (0 ≤ a ∧ a ≤ 100 ∧ 0 ≤ b ∧ b ≤ 100)
/-- The states of a machine: d shifts, from shift s on; 'now': is it ready? -/
def states (f r key : Int) : Nat → Int → Bool → List Bool
  | 0, _, _ => []
  | d + 1, s, now => now :: states f r key d (s + 1) (if Int.tmod (mix [key, s, 3, 100]) 100 < (if now = true then f else r) then !now else now)
theorem states_length (f r key : Int) : ∀ (d : Nat) (s : Int) (now : Bool), (states f r key d s now).length = d
  | 0, _, _ => rfl
  | d + 1, s, now => by simp [states, states_length]
/-- Tonnes and losses of a bench. -/
def lossWaste : List Int → List Bool → Int → Int → Int × Int
  | v :: vs, b :: bs, l, w => if b = true then lossWaste vs bs l (w + max 0 (-v)) else lossWaste vs bs (l + max 0 v) w
  | _, _, l, w => (l, w)
def dugSum : List Int → List Bool → Int → Int
  | v :: vs, b :: bs, s => dugSum vs bs (if b = true then s + v else s)
  | _, _, s => s
def modelOk (x y z : Int) (t g r : List Int) : Bool := gridOk x y z && decide ((t.length : Int) = x * y * z ∧ (g.length : Int) = x * y * z ∧ (r.length : Int) = x * y * z) && (allIn 0 10000 t && (allIn 0 1000 g && allIn 0 4 r))
end Go.Proofs.Ytkoacjepochjaaa.Model
namespace Go.Proofs.Ytkoacjepochjaaa.PureFnExactStatesOf
open Go.RowKit Go.Proofs.Ytkoacjepochjaaa.PFnExactStatesOf Go.Proofs.YtkoacjepochjaaaW.PrintWords Go.Proofs.YtkoacjepochjaaaW.PrintLast Go.Proofs.YtkoacjepochjaaaW.PrintMore Go.Proofs.Ytkoacjepochjaaa.Kit Go.Proofs.Ytkoacjepochjaaa.Model
theorem spec_l1In_eq (a lo hi : Int) : spec_l1In.f a lo hi = some (decide (lo ≤ a ∧ a ≤ hi)) := by
  unfold spec_l1In.f
  split
  · congr 1; simp; omega
  · congr 1; simp; omega
theorem spec_brGood_eq (a b : Int) (c : Bool) : spec_brGood.f a b c = some (machOk a b) := by
  simp only [spec_brGood.f, spec_l1In_eq, Option.bind_some, decide_eq_true_eq, machOk]
  by_cases h : 0 ≤ a ∧ a ≤ 100
  · rw [if_pos h]; congr 1; rw [decide_eq_decide]; omega
  · rw [if_neg h]; congr 1; symm; simp; omega
theorem spec_brKey_eq (a : Int) : spec_brKey.f a = some (decide (0 ≤ a ∧ a ≤ 1000000000)) := by simp only [spec_brKey.f, spec_l1In_eq, Option.bind_some]
theorem spec_l1Own_eq (l : List Int) (h : l.length < 17592186044416) : spec_l1Own.f l = some l := by
  simp only [spec_l1Own.f, Option.bind_some, List.length_nil, List.nil_append]
  rw [if_pos (by omega)]
theorem spec_brMix_l0 (l : List Int) (hn : l.length ≤ 9223372036854775807) : ∀ (ys : List Int) (i : Nat) (a : Int), l.drop i = ys → Ev (fun k => spec_brMix.l0 k a l (l.length : Int) i) (ys.foldl mixStep a)
  | [], i, a, h => Ev.next0 fun k => by
      have h0 := drop_nil h
      simp only [spec_brMix.l0, List.foldl]
      rw [if_neg (by omega)]
  | y :: ys, i, a, h => by
      obtain ⟨h1, h2, h3⟩ := drop_cons h
      refine Ev.next1 (spec_brMix_l0 l hn ys (i + 1) (mixStep a y) h3) fun k hk => ?_
      have e := rd_drop h
      simp only [spec_brMix.l0, e, List.foldl]
      rw [if_pos (by omega), if_pos (by omega), if_pos (by omega), wrap_succ h1 hn]
      exact hk
theorem spec_brMix_ev (l : List Int) (hn : l.length ≤ 1048576) : Ev (fun k => spec_brMix.f k l) (mix l) :=
  Ev.of1 (spec_brMix_l0 (l ++ [5, 2]) (by simp; omega) (l ++ [5, 2]) 0 (wrap64 (6007 + (l.length : Int))) rfl) fun k hk => by
    simp only [spec_brMix.f, spec_l1Own_eq l (by omega), Option.bind_some]
    rw [if_pos (by simp; omega)]
    exact hk
theorem spec_brBelow_ev (l : List Int) (n : Int) (hn : l.length ≤ 1048575) (h0 : n ≠ 0) : Ev (fun k => spec_brBelow.f k l n) (Int.tmod (mix (l ++ [n])) n) :=
  Ev.of1 (spec_brMix_ev (l ++ [n]) (by simp; omega)) fun k hk => by
    simp only [spec_brBelow.f, spec_l1Own_eq l (by omega), Option.bind_some]
    rw [if_pos (by omega), hk, Option.bind_some, if_neg h0]
theorem spec_brStates_l0 (f r key n : Int) (c : Bool) (hn : n ≤ 60) : ∀ (d : Nat) (s : Int) (a : List Bool) (now : Bool), 0 ≤ s → s + d = n → (a.length : Int) = s → Ev (fun k => spec_brStates.l0 k key n a now s f r c) (a ++ states f r key d s now)
  | 0, s, a, now, h0, hd, ha => Ev.next0 fun k => by
      simp only [spec_brStates.l0, states, List.append_nil]
      rw [if_neg (by omega)]
  | d + 1, s, a, now, h0, hd, ha => by
      have hb := spec_brBelow_ev [key, s, 3] 100 (by simp) (by omega)
      have e : ([key, s, 3] : List Int) ++ [100] = [key, s, 3, 100] := rfl
      rw [e] at hb
      refine Ev.next2 hb (spec_brStates_l0 f r key n c hn d (s + 1) (a ++ [now]) (if Int.tmod (mix [key, s, 3, 100]) 100 < (if now = true then f else r) then !now else now) (by omega) (by omega) (by simp; omega)) fun k h1 h2 => ?_
      simp only [spec_brStates.l0, Option.bind_some, h1, states]
      rw [if_pos (by omega), if_pos (by omega), wrap_id (by omega) (by omega)]
      rw [List.append_assoc] at h2
      cases now with
      | true =>
        simp only [if_true] at h2 ⊢
        by_cases hq : Int.tmod (mix [key, s, 3, 100]) 100 < f
        · simp only [if_pos hq] at h2 ⊢; exact h2
        · simp only [if_neg hq] at h2 ⊢; exact h2
      | false =>
        simp only [Bool.false_eq_true, if_false] at h2 ⊢
        by_cases hq : Int.tmod (mix [key, s, 3, 100]) 100 < r
        · simp only [if_pos hq] at h2 ⊢; exact h2
        · simp only [if_neg hq] at h2 ⊢; exact h2
theorem spec_brStates_ev (f r key n : Int) (c : Bool) (h0 : 0 ≤ n) (hn : n ≤ 60) : Ev (fun k => spec_brStates.f k f r c key n) (states f r key n.toNat 0 c) :=
  Ev.of1 (spec_brStates_l0 f r key n c hn n.toNat 0 [] c (by omega) (by omega) rfl) fun k hk => by simp only [spec_brStates.f]; exact hk
def statesM (f r : Int) (c : Bool) (key n : Int) : List Bool × Bool := if machOk f r = true ∧ (0 ≤ key ∧ key ≤ 1000000000) ∧ (0 ≤ n ∧ n ≤ 60) then (states f r key n.toNat 0 c, true) else ([], false)
theorem spec_StatesOf_ev (f r : Int) (c : Bool) (key n : Int) : Ev (fun k => spec_StatesOf.f k f r c key n) (statesM f r c key n) := by
  by_cases h : machOk f r = true ∧ (0 ≤ key ∧ key ≤ 1000000000) ∧ (0 ≤ n ∧ n ≤ 60)
  · obtain ⟨h1, h2, h3⟩ := h
    refine Ev.of1 (spec_brStates_ev f r key n c h3.1 h3.2) fun k hk => ?_
    simp only [spec_StatesOf.f, spec_brGood_eq, spec_brKey_eq, spec_l1In_eq, Option.bind_some]
    rw [if_pos h1, if_pos (by simpa using h2), if_pos (by simpa using h3), hk, Option.bind_some, statesM, if_pos ⟨h1, h2, h3⟩]
  · refine Ev.all fun k => ?_
    simp only [spec_StatesOf.f, spec_brGood_eq, spec_brKey_eq, spec_l1In_eq, Option.bind_some]
    rw [statesM, if_neg h]
    by_cases h1 : machOk f r = true
    · rw [if_pos h1]
      by_cases h2 : 0 ≤ key ∧ key ≤ 1000000000
      · rw [if_pos (by simpa using h2), if_neg]
        intro h3; exact h ⟨h1, h2, by simpa using h3⟩
      · rw [if_neg (by simpa using h2)]
    · rw [if_neg h1]
theorem impl_IsMachine_eq (a b : Int) (c : Bool) : impl_IsMachine.f a b c = some (machOk a b) := by
  simp only [impl_IsMachine.f, machOk]
  repeat' split
  all_goals first | (congr 1; rw [decide_eq_decide]; omega) | (congr 1; symm; simp; omega)
theorem impl_areShifts_eq (a : Int) : impl_areShifts.f a = some (decide (0 ≤ a ∧ a ≤ 60)) := by
  simp only [impl_areShifts.f]
  split
  · congr 1; rw [decide_eq_decide]; omega
  · congr 1; symm; simp; omega
theorem impl_mixOf_l0 (l : List Int) (hn : l.length ≤ 9223372036854775807) : ∀ (ys : List Int) (i : Nat) (a : Int), l.drop i = ys → Ev (fun k => impl_mixOf.l0 k a l (l.length : Int) i) (ys.foldl mixStep a)
  | [], i, a, h => Ev.next0 fun k => by
      have h0 := drop_nil h
      simp only [impl_mixOf.l0, List.foldl]
      rw [if_neg (by omega)]
  | y :: ys, i, a, h => by
      obtain ⟨h1, h2, h3⟩ := drop_cons h
      refine Ev.next1 (impl_mixOf_l0 l hn ys (i + 1) (mixStep a y) h3) fun k hk => ?_
      have e := rd_drop h
      simp only [impl_mixOf.l0, e, List.foldl]
      rw [if_pos (by omega), if_pos (by omega), if_pos (by omega), wrap_succ h1 hn]
      exact hk
theorem impl_mixOf_ev (l : List Int) (hn : l.length ≤ 1048576) : Ev (fun k => impl_mixOf.f k l) (mix l) :=
  Ev.of1 (impl_mixOf_l0 (l ++ [5, 2]) (by simp; omega) (l ++ [5, 2]) 0 (wrap64 (6007 + (l.length : Int))) rfl) fun k hk => by
    simp only [impl_mixOf.f, Option.bind_some, List.nil_append, List.length_nil]
    rw [if_pos (by omega), if_pos (by simp; omega)]
    exact hk
theorem impl_numberFor_ev (l : List Int) (n : Int) (hn : l.length ≤ 1048575) (h0 : n ≠ 0) : Ev (fun k => impl_numberFor.f k n l) (Int.tmod (mix (l ++ [n])) n) :=
  Ev.of1 (impl_mixOf_ev (l ++ [n]) (by simp; omega)) fun k hk => by
    simp only [impl_numberFor.f, Option.bind_some, List.nil_append, List.length_nil]
    rw [if_pos (by omega), if_pos (by omega), hk, Option.bind_some, if_neg h0]
theorem impl_statesOf_l0 (f r key n : Int) (c : Bool) (hn : n ≤ 60) : ∀ (d : Nat) (s : Int) (a : List Bool) (now : Bool), 0 ≤ s → s + d = n → (a.length : Int) = s → Ev (fun k => impl_statesOf.l0 k key n a now s f r c) (a ++ states f r key d s now)
  | 0, s, a, now, h0, hd, ha => Ev.next0 fun k => by
      simp only [impl_statesOf.l0, states, List.append_nil]
      rw [if_neg (by omega)]
  | d + 1, s, a, now, h0, hd, ha => by
      have hb := impl_numberFor_ev [key, s, 3] 100 (by simp) (by omega)
      have e : ([key, s, 3] : List Int) ++ [100] = [key, s, 3, 100] := rfl
      rw [e] at hb
      refine Ev.next2 hb (impl_statesOf_l0 f r key n c hn d (s + 1) (a ++ [now]) (if Int.tmod (mix [key, s, 3, 100]) 100 < (if now = true then f else r) then !now else now) (by omega) (by omega) (by simp; omega)) fun k h1 h2 => ?_
      simp only [impl_statesOf.l0, Option.bind_some, h1, states]
      rw [if_pos (by omega), if_pos (by omega), wrap_id (by omega) (by omega)]
      rw [List.append_assoc] at h2
      cases now with
      | true =>
        simp only [if_true] at h2 ⊢
        by_cases hq : Int.tmod (mix [key, s, 3, 100]) 100 < f
        · simp only [if_pos hq] at h2 ⊢; exact h2
        · simp only [if_neg hq] at h2 ⊢; exact h2
      | false =>
        simp only [Bool.false_eq_true, if_false] at h2 ⊢
        by_cases hq : Int.tmod (mix [key, s, 3, 100]) 100 < r
        · simp only [if_pos hq] at h2 ⊢; exact h2
        · simp only [if_neg hq] at h2 ⊢; exact h2
theorem impl_statesOf_ev (f r key n : Int) (c : Bool) (h0 : 0 ≤ n) (hn : n ≤ 60) : Ev (fun k => impl_statesOf.f k f r c key n) (states f r key n.toNat 0 c) :=
  Ev.of1 (impl_statesOf_l0 f r key n c hn n.toNat 0 [] c (by omega) (by omega) rfl) fun k hk => by simp only [impl_statesOf.f]; exact hk
-- needs: spec_StatesOf
theorem impl_StatesOf_ev (f r : Int) (c : Bool) (key n : Int) : Ev (fun k => impl_StatesOf.f k f r c key n) (statesM f r c key n) := by
  by_cases h : machOk f r = true ∧ (0 ≤ key ∧ key ≤ 1000000000) ∧ (0 ≤ n ∧ n ≤ 60)
  · obtain ⟨h1, h2, h3⟩ := h
    refine Ev.of1 (impl_statesOf_ev f r key n c h3.1 h3.2) fun k hk => ?_
    simp only [impl_StatesOf.f, impl_IsMachine_eq, impl_areShifts_eq, Option.bind_some]
    rw [if_pos h1, if_neg (by omega), if_neg (by omega), if_pos (by simpa using h3), hk, Option.bind_some, statesM, if_pos ⟨h1, h2, h3⟩]
  · refine Ev.all fun k => ?_
    simp only [impl_StatesOf.f, impl_IsMachine_eq, impl_areShifts_eq, Option.bind_some]
    rw [statesM, if_neg h]
    by_cases h1 : machOk f r = true
    · rw [if_pos h1]
      by_cases h2 : 0 ≤ key ∧ key ≤ 1000000000
      · rw [if_neg (by omega), if_neg (by omega), if_neg]
        intro h3; exact h ⟨h1, h2, by simpa using h3⟩
      · split
        · rfl
        · rw [if_pos (by omega)]
    · rw [if_neg h1]
theorem laws_eqBoolS_l0 (l : List Bool) (hn : l.length ≤ 9223372036854775807) : ∀ (ys : List Bool) (i : Nat), l.drop i = ys → Ev (fun k => laws_eqBoolS.l0 k l l i) true
  | [], i, h => Ev.next0 fun k => by
      have h0 := drop_nil h
      simp only [laws_eqBoolS.l0]
      rw [if_neg (by omega)]
  | y :: ys, i, h => by
      obtain ⟨h1, h2, h3⟩ := drop_cons h
      refine Ev.next1 (laws_eqBoolS_l0 l hn ys (i + 1) h3) fun k hk => ?_
      have e := rdOf_drop (d := false) h
      simp only [laws_eqBoolS.l0, e]
      rw [if_pos (by omega), if_pos (by omega), if_pos (by omega), if_neg (by simp), wrap_succ h1 hn]
      exact hk
theorem laws_eqBoolS_ev (l : List Bool) (hn : l.length ≤ 9223372036854775807) : Ev (fun k => laws_eqBoolS.f k l l) true :=
  Ev.of1 (laws_eqBoolS_l0 l hn l 0 rfl) fun k hk => by
    simp only [laws_eqBoolS.f]
    rw [if_pos (by simp)]
    exact hk
theorem laws_markBoolS_l0 (n : Nat) (c : Int) (hc : 0 ≤ c) (hb : c + n ≤ 9223372036854775807) : ∀ (d i : Nat) (x : List Bool), i + d = n → x.length = n → x.take i = (markB n c).take i → Ev (fun k => laws_markBoolS.l0 k x (c + (i : Int)) i) (c + (n : Int), markB n c)
  | 0, i, x, hd, hl, ht => Ev.next0 fun k => by
      simp only [laws_markBoolS.l0]
      rw [if_neg (by omega), copy_end (by rw [hl, markB_length]) ht (by rw [markB_length]; omega), show i = n by omega]
  | d + 1, i, x, hd, hl, ht => by
      obtain ⟨c1, c2⟩ := copy_step (markB_get n c i (by omega)) (by rw [hl, markB_length]) ht
      refine Ev.next1 (laws_markBoolS_l0 n c hc hb d (i + 1) _ (by omega) (by rw [c1, markB_length]) c2) fun k hk => ?_
      simp only [laws_markBoolS.l0]
      rw [if_pos (by omega), if_pos (by omega), wrap_succ (n := n) (by omega) (by omega), wrap_id (by omega) (by omega), toNat_cast, show c + (i : Int) + 1 = c + ((i + 1 : Nat) : Int) by push_cast; omega]
      exact hk
theorem laws_markBoolS_ev (x : List Bool) (c : Int) (hc : 0 ≤ c) (hb : c + x.length ≤ 9223372036854775807) : Ev (fun k => laws_markBoolS.f k x c) (c + (x.length : Int), markB x.length c) :=
  Ev.of1 (laws_markBoolS_l0 x.length c hc hb x.length 0 x (by omega) rfl rfl) fun k hk => by
    simp only [laws_markBoolS.f]
    rw [show c + ((0 : Nat) : Int) = c by omega] at hk
    exact hk
theorem laws_heldBoolS_l0 (n : Nat) (c : Int) (hc : 0 ≤ c) (hb : c + n ≤ 9223372036854775807) : ∀ (d i : Nat), i + d = n → Ev (fun k => laws_heldBoolS.l0 k (markB n c) (c + (i : Int)) i) (c + (n : Int))
  | 0, i, hd => Ev.next0 fun k => by
      simp only [laws_heldBoolS.l0]
      rw [if_neg (by rw [markB_length]; omega), show i = n by omega]
  | d + 1, i, hd => by
      refine Ev.next1 (laws_heldBoolS_l0 n c hc hb d (i + 1) (by omega)) fun k hk => ?_
      have e := rdOf_get (d := false) (markB_get n c i (by omega))
      simp only [laws_heldBoolS.l0, e]
      rw [if_pos (by rw [markB_length]; omega), if_pos (by omega), if_neg (by simp), wrap_succ (n := n) (by omega) (by omega), wrap_id (by omega) (by omega), show c + (i : Int) + 1 = c + ((i + 1 : Nat) : Int) by push_cast; omega]
      exact hk
theorem laws_heldBoolS_ev (n : Nat) (c : Int) (hc : 0 ≤ c) (hb : c + n ≤ 9223372036854775807) : Ev (fun k => laws_heldBoolS.f k (markB n c) c) (c + (n : Int)) :=
  Ev.of1 (laws_heldBoolS_l0 n c hc hb n 0 (by omega)) fun k hk => by
    simp only [laws_heldBoolS.f]
    rw [show c + ((0 : Nat) : Int) = c by omega] at hk
    exact hk
theorem statesM_len (f r : Int) (c : Bool) (key n : Int) : (statesM f r c key n).1.length ≤ 60 := by
  unfold statesM
  split
  · rw [states_length]; omega
  · simp
theorem j1_ev (n : Nat) (hn : n ≤ 1048576) : Ev (fun k => laws_FnExactStatesOf.j1 k (markB n 1) (1 + (n : Int)) false) true :=
  (ev_one (laws_heldBoolS_ev n 1 (by omega) (by omega))).next fun k h1 => by
    simp only [laws_FnExactStatesOf.j1, h1, Option.bind_some]
    rw [if_neg (by simp), if_neg (by omega), if_pos (by simp)]
theorem j0_ev (f r : Int) (c : Bool) (key n : Int) : Ev (fun k => laws_FnExactStatesOf.j0 k key n (statesM f r c key n).1 (statesM f r c key n).2 (statesM f r c key n).1 false f r c) true := by
  have hw := statesM_len f r c key n
  refine (ev_and (laws_markBoolS_ev (statesM f r c key n).1 1 (by omega) (by omega)) <| ev_and (laws_heldBoolS_ev (statesM f r c key n).1.length 1 (by omega) (by omega)) <|
    ev_and (impl_StatesOf_ev f r c key n) <| ev_and (laws_eqBoolS_ev (statesM f r c key n).1 (by omega)) <| ev_one (j1_ev (statesM f r c key n).1.length (by omega))).next fun k ⟨h1, h2, h3, h4, h5⟩ => ?_
  simp only [laws_FnExactStatesOf.j0, laws_toMachine.f, h1, h2, h3, h4, Option.bind_some]
  rw [if_neg (by simp), if_neg (by omega), if_pos (by simp), if_pos (by simp), bne_self_eq_false, h5]
theorem FnExactStatesOf : Stat.FnExactStatesOf := by
  intro f r c key n _ _ _ _
  refine Ev.rounds ?_
  have hw := statesM_len f r c key n
  refine (ev_and (spec_StatesOf_ev f r c key n) <| ev_and (impl_StatesOf_ev f r c key n) <| ev_and (laws_eqBoolS_ev (statesM f r c key n).1 (by omega)) <| ev_one (j0_ev f r c key n)).ev fun k ⟨h1, h2, h3, h4⟩ => ?_
  simp only [laws_FnExactStatesOf.f, laws_toMachine.f, h1, h2, h3, Option.bind_some]
  rw [if_pos (by simp), bne_self_eq_false, h4]
end Go.Proofs.Ytkoacjepochjaaa.PureFnExactStatesOf
namespace Go.Proofs.Ytkoacjepochjaaa.Pure
theorem FnExactStatesOf : Stat.FnExactStatesOf := PureFnExactStatesOf.FnExactStatesOf
end Go.Proofs.Ytkoacjepochjaaa.Pure
