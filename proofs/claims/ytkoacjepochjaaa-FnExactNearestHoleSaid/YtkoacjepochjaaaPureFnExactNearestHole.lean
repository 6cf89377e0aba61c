/- The law FnExactNearestHole over numbers and lists: it is true of every input. -/
import Derived.Test.YtkoacjepochjaaaStatFnExactNearestHole
import Derived.Test.YtkoacjepochjaaaWMore
set_option linter.unusedVariables false
set_option linter.unusedSimpArgs false
namespace Go.Proofs.Ytkoacjepochjaaa.Kit
open Go.RowKit Go.Proofs.YtkoacjepochjaaaW.PrintWords Go.Proofs.YtkoacjepochjaaaW.PrintMore

/-! ### Rounds -/
theorem Ev.all {α : Type} {g : Nat → Option α} {r : α} (h : ∀ k, g k = some r) : Ev g r := ⟨0, fun k _ => h k⟩
theorem Ev.of1 {α β : Type} {g : Nat → Option α} {f : Nat → Option β} {r : α} {b : β} (h : Ev f b) (k : ∀ k, f k = some b → g k = some r) : Ev g r := by
  obtain ⟨K, h⟩ := h; exact ⟨K, fun n hn => k n (h n hn)⟩
theorem Ev.of2 {α β γ : Type} {g : Nat → Option α} {f : Nat → Option β} {f' : Nat → Option γ} {r : α} {b : β} {c : γ} (h : Ev f b) (h' : Ev f' c) (k : ∀ k, f k = some b → f' k = some c → g k = some r) : Ev g r := by
  obtain ⟨K, h⟩ := h; obtain ⟨K', h'⟩ := h'; exact ⟨K + K', fun n hn => k n (h n (by omega)) (h' n (by omega))⟩
theorem Ev.of3 {α β γ δ : Type} {g : Nat → Option α} {f : Nat → Option β} {f' : Nat → Option γ} {f'' : Nat → Option δ} {r : α} {b : β} {c : γ} {d : δ} (h : Ev f b) (h' : Ev f' c) (h'' : Ev f'' d)
    (k : ∀ k, f k = some b → f' k = some c → f'' k = some d → g k = some r) : Ev g r := by
  obtain ⟨K, h⟩ := h; obtain ⟨K', h'⟩ := h'; obtain ⟨K'', h''⟩ := h''
  exact ⟨K + K' + K'', fun n hn => k n (h n (by omega)) (h' n (by omega)) (h'' n (by omega))⟩
/-- Two at once: a pair of facts for one number of rounds. -/
def Both {α β : Type} (f : Nat → Option α) (g : Nat → Option β) (a : α) (b : β) : Prop := ∃ K, ∀ k, K ≤ k → f k = some a ∧ g k = some b
theorem Ev.next0 {α : Type} {g : Nat → Option α} {r : α} (h : ∀ k, g (k + 1) = some r) : Ev g r :=
  ⟨1, fun n hn => by obtain ⟨m, rfl⟩ : ∃ m, n = m + 1 := ⟨n - 1, by omega⟩; exact h m⟩
theorem Ev.next1 {α β : Type} {g : Nat → Option α} {f : Nat → Option β} {r : α} {b : β} (h : Ev f b) (k : ∀ k, f k = some b → g (k + 1) = some r) : Ev g r := by
  obtain ⟨K, h⟩ := h
  exact ⟨K + 1, fun n hn => by obtain ⟨m, rfl⟩ : ∃ m, n = m + 1 := ⟨n - 1, by omega⟩; exact k m (h m (by omega))⟩
theorem Ev.next2 {α β γ : Type} {g : Nat → Option α} {f : Nat → Option β} {f' : Nat → Option γ} {r : α} {b : β} {c : γ} (h : Ev f b) (h' : Ev f' c) (k : ∀ k, f k = some b → f' k = some c → g (k + 1) = some r) : Ev g r := by
  obtain ⟨K, h⟩ := h; obtain ⟨K', h'⟩ := h'
  exact ⟨K + K' + 1, fun n hn => by obtain ⟨m, rfl⟩ : ∃ m, n = m + 1 := ⟨n - 1, by omega⟩; exact k m (h m (by omega)) (h' m (by omega))⟩
theorem Ev.next3 {α β γ δ : Type} {g : Nat → Option α} {f : Nat → Option β} {f' : Nat → Option γ} {f'' : Nat → Option δ} {r : α} {b : β} {c : γ} {d : δ} (h : Ev f b) (h' : Ev f' c) (h'' : Ev f'' d)
    (k : ∀ k, f k = some b → f' k = some c → f'' k = some d → g (k + 1) = some r) : Ev g r := by
  obtain ⟨K, h⟩ := h; obtain ⟨K', h'⟩ := h'; obtain ⟨K'', h''⟩ := h''
  exact ⟨K + K' + K'' + 1, fun n hn => by obtain ⟨m, rfl⟩ : ∃ m, n = m + 1 := ⟨n - 1, by omega⟩; exact k m (h m (by omega)) (h' m (by omega)) (h'' m (by omega))⟩
theorem Ev.uniq {α : Type} {g : Nat → Option α} {r s : α} (h : Ev g r) (k : Ev g s) : r = s := by
  obtain ⟨K, h⟩ := h; obtain ⟨K', k⟩ := k
  have a := h (K + K') (by omega); have b := k (K + K') (by omega)
  rw [a] at b; exact Option.some.inj b

/-- From some number of rounds on. -/
def Evt (p : Nat → Prop) : Prop := ∃ K, ∀ k, K ≤ k → p k
theorem ev_one {α : Type} {f : Nat → Option α} {a : α} (h : Ev f a) : Evt (fun k => f k = some a) := h
theorem ev_and {α : Type} {f : Nat → Option α} {a : α} {p : Nat → Prop} (h : Ev f a) (h' : Evt p) : Evt (fun k => f k = some a ∧ p k) := by
  obtain ⟨K, h⟩ := h; obtain ⟨K', h'⟩ := h'; exact ⟨K + K', fun n hn => ⟨h n (by omega), h' n (by omega)⟩⟩
theorem Evt.ev {α : Type} {g : Nat → Option α} {r : α} {p : Nat → Prop} (h : Evt p) (k : ∀ k, p k → g k = some r) : Ev g r := by
  obtain ⟨K, h⟩ := h; exact ⟨K, fun n hn => k n (h n hn)⟩
theorem Evt.next {α : Type} {g : Nat → Option α} {r : α} {p : Nat → Prop} (h : Evt p) (k : ∀ k, p k → g (k + 1) = some r) : Ev g r := by
  obtain ⟨K, h⟩ := h
  exact ⟨K + 1, fun n hn => by obtain ⟨m, rfl⟩ : ∃ m, n = m + 1 := ⟨n - 1, by omega⟩; exact k m (h m (by omega))⟩

/-! ### Whole numbers -/
theorem wrap_id {x : Int} (h0 : -9223372036854775808 ≤ x) (h1 : x ≤ 9223372036854775807) : wrap64 x = x := by unfold wrap64; omega
theorem wrap_succ {i n : Nat} (h : i < n) (hn : n ≤ 9223372036854775807) : wrap64 ((i : Int) + 1) = ((i + 1 : Nat) : Int) := by unfold wrap64; omega
theorem toNat_cast (i : Nat) : ((i : Int)).toNat = i := by omega

theorem mx_eq (a b : Int) : mx a b = max a b := by unfold mx; split <;> omega
theorem mn_eq (a b : Int) : mn a b = min a b := by unfold mn; split <;> omega

/-! ### Lists from an index on -/
theorem drop_cons {α : Type} {xs ys : List α} {y : α} {i : Nat} (h : xs.drop i = y :: ys) : i < xs.length ∧ xs[i]? = some y ∧ xs.drop (i + 1) = ys := by
  have hlt : i < xs.length := by
    by_cases hlt : i < xs.length
    · exact hlt
    · rw [List.drop_of_length_le (by omega)] at h; cases h
  rw [List.drop_eq_getElem_cons hlt] at h
  injection h with h1 h2
  exact ⟨hlt, by rw [List.getElem?_eq_getElem hlt, h1], h2⟩
theorem drop_nil {α : Type} {xs : List α} {i : Nat} (h : xs.drop i = []) : xs.length ≤ i := by simpa using h
theorem getD_drop {α : Type} {xs ys : List α} {y d : α} {i : Nat} (h : xs.drop i = y :: ys) : xs.getD ((i : Int)).toNat d = y := by
  rw [toNat_cast, List.getD_eq_getElem?_getD, (drop_cons h).2.1]; rfl
theorem rd_drop {xs ys : List Int} {y : Int} {i : Nat} (h : xs.drop i = y :: ys) : rd xs (i : Int) = y := getD_drop h
theorem rdOf_drop {α : Type} {xs ys : List α} {y d : α} {i : Nat} (h : xs.drop i = y :: ys) : rdOf d xs (i : Int) = y := getD_drop h
theorem getD_get {α : Type} {xs : List α} {y d : α} {i : Nat} (h : xs[i]? = some y) : xs.getD ((i : Int)).toNat d = y := by
  rw [toNat_cast, List.getD_eq_getElem?_getD, h]; rfl
theorem rd_get {xs : List Int} {y : Int} {i : Nat} (h : xs[i]? = some y) : rd xs (i : Int) = y := getD_get h
theorem rdOf_get {α : Type} {xs : List α} {y d : α} {i : Nat} (h : xs[i]? = some y) : rdOf d xs (i : Int) = y := getD_get h
theorem drop_of_get {α : Type} {xs : List α} {y : α} {i : Nat} (h : xs[i]? = some y) : xs.drop i = y :: xs.drop (i + 1) := by
  obtain ⟨hl, rfl⟩ := List.getElem?_eq_some_iff.1 h
  exact List.drop_eq_getElem_cons hl

/-- What is left of a, n taken off; -1 if it isn't enough. -/
def left (a : Int) (n : Nat) : Int := if a < (n : Int) then -1 else a - (n : Int)
theorem left_lt {a : Int} {n : Nat} (h : a < (n : Int)) : left a n = -1 := if_pos h
theorem left_ge {a : Int} {n : Nat} (h : (n : Int) ≤ a) : left a n = a - (n : Int) := if_neg (by omega)
/-- How many values rows hold, the rows counted too. -/
def tot : List (List Int) → Nat
  | [] => 0
  | y :: ys => 1 + y.length + tot ys
def sumLen : List (List Int) → Nat
  | [] => 0
  | y :: ys => y.length + sumLen ys
theorem tot_eq : ∀ ls : List (List Int), tot ls = ls.length + sumLen ls
  | [] => rfl
  | y :: ys => by simp only [tot, sumLen, List.length_cons, tot_eq ys]; omega
theorem sumLen_mem : ∀ {ls : List (List Int)} {y : List Int}, y ∈ ls → y.length ≤ sumLen ls
  | z :: zs, y, h => by
    rcases List.mem_cons.1 h with rfl | h
    · simp only [sumLen]; omega
    · have := sumLen_mem h; simp only [sumLen]; omega

/-! ### A list that is copied, element for element -/
theorem copy_step {α : Type} {m x : List α} {y : α} {i : Nat} (hm : m[i]? = some y) (hl : x.length = m.length) (ht : x.take i = m.take i) : (x.set i y).length = m.length ∧ (x.set i y).take (i + 1) = m.take (i + 1) := by
  obtain ⟨hi, rfl⟩ := List.getElem?_eq_some_iff.1 hm
  refine ⟨by simpa using hl, ?_⟩
  apply List.ext_getElem?
  intro j
  have hj : (x.take i)[j]? = (m.take i)[j]? := by rw [ht]
  rw [List.getElem?_take, List.getElem?_take] at *
  by_cases h1 : j < i + 1
  · rw [if_pos h1, if_pos h1]
    by_cases h2 : j = i
    · subst h2
      rw [List.getElem?_set_self (by omega), List.getElem?_eq_getElem hi]
    · rw [List.getElem?_set_ne (by omega)]
      rw [if_pos (by omega), if_pos (by omega)] at hj
      exact hj
  · rw [if_neg h1, if_neg h1]
theorem copy_end {α : Type} {m x : List α} {i : Nat} (hl : x.length = m.length) (ht : x.take i = m.take i) (hi : m.length ≤ i) : x = m := by
  rw [List.take_of_length_le (by omega), List.take_of_length_le hi] at ht; exact ht

/-! ### Strictly increasing lists of 0..n-1 -/
def rise (n : Int) : Int → List Int → Bool
  | _, [] => true
  | p, y :: ys => decide (0 ≤ y ∧ y < n ∧ p < y) && rise n y ys
theorem rise_mem {n : Int} : ∀ {p : Int} {ys : List Int}, rise n p ys = true → ∀ y ∈ ys, 0 ≤ y ∧ y < n ∧ p < y
  | p, [], _, y, hy => by cases hy
  | p, z :: zs, h, y, hy => by
    simp only [rise, Bool.and_eq_true, decide_eq_true_eq] at h
    rcases List.mem_cons.1 hy with rfl | hy
    · exact h.1
    · have := rise_mem h.2 y hy; omega

/-! ### Numbers marked and held -/
def markI : Nat → Int → List Int
  | 0, _ => []
  | n + 1, k => k :: markI n (k + 1)
theorem markI_length : ∀ (n : Nat) (k : Int), (markI n k).length = n
  | 0, _ => rfl
  | n + 1, k => by simp [markI, markI_length n (k + 1)]
theorem markI_get : ∀ (n : Nat) (k : Int) (j : Nat), j < n → (markI n k)[j]? = some (k + j)
  | 0, _, _, h => by omega
  | n + 1, k, 0, _ => by simp [markI]
  | n + 1, k, j + 1, h => by simp only [markI, List.getElem?_cons_succ]; rw [markI_get n (k + 1) j (by omega)]; congr 1; push_cast; omega
def markB : Nat → Int → List Bool
  | 0, _ => []
  | n + 1, k => (Int.tmod k 3 == 0) :: markB n (k + 1)
theorem markB_length : ∀ (n : Nat) (k : Int), (markB n k).length = n
  | 0, _ => rfl
  | n + 1, k => by simp [markB, markB_length n (k + 1)]
theorem markB_get : ∀ (n : Nat) (k : Int) (j : Nat), j < n → (markB n k)[j]? = some (Int.tmod (k + j) 3 == 0)
  | 0, _, _, h => by omega
  | n + 1, k, 0, _ => by simp [markB]
  | n + 1, k, j + 1, h => by simp only [markB, List.getElem?_cons_succ]; rw [markB_get n (k + 1) j (by omega)]; congr 2; congr 1; push_cast; omega
end Go.Proofs.Ytkoacjepochjaaa.Kit
namespace Go.Proofs.Ytkoacjepochjaaa.Model
open Go.RowKit Go.Proofs.YtkoacjepochjaaaW.PrintWords Go.Proofs.Ytkoacjepochjaaa.Kit

/-- Numbers within bounds, all of them. -/
def allIn (lo hi : Int) : List Int → Bool
  | [] => true
  | y :: ys => decide (lo ≤ y ∧ y ≤ hi) && allIn lo hi ys
theorem allIn_mem {lo hi : Int} : ∀ {ys : List Int}, allIn lo hi ys = true → ∀ y ∈ ys, lo ≤ y ∧ y ≤ hi
  | [], _, y, hy => by cases hy
  | z :: zs, h, y, hy => by
    simp only [allIn, Bool.and_eq_true, decide_eq_true_eq] at h
    rcases List.mem_cons.1 hy with rfl | hy
    · exact h.1
    · exact allIn_mem h.2 y hy
theorem allIn_get {lo hi : Int} {ys : List Int} (h : allIn lo hi ys = true) {i : Nat} {y : Int} (hy : ys[i]? = some y) : lo ≤ y ∧ y ≤ hi := allIn_mem h y (List.mem_of_getElem? hy)
theorem allIn_of {lo hi : Int} : ∀ {ys : List Int}, (∀ y ∈ ys, lo ≤ y ∧ y ≤ hi) → allIn lo hi ys = true
  | [], _ => rfl
  | z :: zs, h => by simp only [allIn, Bool.and_eq_true, decide_eq_true_eq]; exact ⟨h z (by simp), allIn_of fun y hy => h y (by simp [hy])⟩

/-- The greatest number of 'false' behind each other; m: so far; n: those just before. -/
def down : List Bool → Int → Int → Int
  | [], m, _ => m
  | b :: bs, m, n => if b = true then down bs (max m 0) 0 else down bs (max m (n + 1)) (n + 1)

def mixStep (a x : Int) : Int := Int.tmod (wrap64 ((Int.tmod (wrap64 ((wrap64 ((wrap64 (33 * a)) + x)) + 11)) 1000003) * (wrap64 ((wrap64 (Int.tdiv (Int.tmod (wrap64 ((wrap64 ((wrap64 (33 * a)) + x)) + 11)) 1000003) 16)) + 7)))) 1000003
def mix (l : List Int) : Int := (l ++ [5, 2]).foldl mixStep (wrap64 (6007 + (l.length : Int)))
def keyOk (l : List Int) : Bool := decide (l.length ≤ 8) && allIn 0 1000000000 l

def gridOk (x y z : Int) : Bool := decide (1 ≤ x ∧ x ≤ 8 ∧ 1 ≤ y ∧ y ≤ 6 ∧ 1 ≤ z ∧ z ≤ 5 ∧ x * y * z ≤ 120)
theorem grid_prod {x y z : Int} (hx : 1 ≤ x ∧ x ≤ 8) (hy : 1 ≤ y ∧ y ≤ 6) (hz : 1 ≤ z ∧ z ≤ 5) : 1 ≤ x * y ∧ x * y ≤ 48 ∧ 1 ≤ x * y * z ∧ x * y * z ≤ 240 := by
  rcases (by omega : x = 1 ∨ x = 2 ∨ x = 3 ∨ x = 4 ∨ x = 5 ∨ x = 6 ∨ x = 7 ∨ x = 8) with rfl | rfl | rfl | rfl | rfl | rfl | rfl | rfl <;>
    rcases (by omega : z = 1 ∨ z = 2 ∨ z = 3 ∨ z = 4 ∨ z = 5) with rfl | rfl | rfl | rfl | rfl <;> omega
theorem grid_ok {x y z : Int} (h : gridOk x y z = true) : (1 ≤ x ∧ x ≤ 8) ∧ (1 ≤ y ∧ y ≤ 6) ∧ (1 ≤ z ∧ z ≤ 5) ∧ 1 ≤ x * y ∧ x * y ≤ 48 ∧ 1 ≤ x * y * z ∧ x * y * z ≤ 120 := by
  simp only [gridOk, decide_eq_true_eq] at h
  have := grid_prod (x := x) (y := y) (z := z) (by omega) (by omega) (by omega)
  omega
theorem grid_wrap {x y z : Int} (hx : 1 ≤ x ∧ x ≤ 8) (hy : 1 ≤ y ∧ y ≤ 6) (hz : 1 ≤ z ∧ z ≤ 5) : wrap64 (wrap64 (x * y) * z) = x * y * z := by
  have := grid_prod hx hy hz
  rw [wrap_id (x := x * y) (by omega) (by omega), wrap_id (by omega) (by omega)]
def holeOk (gx gy gz x y z t g : Int) : Bool := decide (0 ≤ x ∧ x < 10 * gx ∧ 0 ≤ y ∧ y < 10 * gy ∧ 0 ≤ z ∧ z < 10 * gz ∧ 1 ≤ t ∧ t ≤ 1000 ∧ 0 ≤ g ∧ g ≤ 1000)
def benchOk (x y : Int) (l : List Int) : Bool := decide (1 ≤ x ∧ x ≤ 8 ∧ 1 ≤ y ∧ y ≤ 6 ∧ (l.length : Int) = x * y) && allIn (-1000000) 1000000 l
theorem bench_prod {x y : Int} (hx : 1 ≤ x ∧ x ≤ 8) (hy : 1 ≤ y ∧ y ≤ 6) : 1 ≤ x * y ∧ x * y ≤ 48 := by
  rcases (by omega : x = 1 ∨ x = 2 ∨ x = 3 ∨ x = 4 ∨ x = 5 ∨ x = 6 ∨ x = 7 ∨ x = 8) with rfl | rfl | rfl | rfl | rfl | rfl | rfl | rfl <;> omega
theorem bench_len {x y : Int} {l : List Int} (h : benchOk x y l = true) : (1 ≤ x ∧ x ≤ 8) ∧ (1 ≤ y ∧ y ≤ 6) ∧ (l.length : Int) = x * y ∧ 1 ≤ l.length ∧ l.length ≤ 48 := by
  simp only [benchOk, Bool.and_eq_true, decide_eq_true_eq] at h
  have := bench_prod (x := x) (y := y) (by omega) (by omega)
  omega
theorem bench_vals {x y : Int} {l : List Int} (h : benchOk x y l = true) : allIn (-1000000) 1000000 l = true := by
  simp only [benchOk, Bool.and_eq_true] at h; exact h.2
def rowHolds (l : List Int) : Bool := decide (rd l 0 = wrap64 (wrap64 (rd l 2 + rd l 4) + rd l 6)) && (rd l 1 == wrap64 (wrap64 (rd l 3 + rd l 5) + rd l 7))
def rowOk (l : List Int) : Bool := decide (l.length = 12) && allIn 0 100000000000 l
def rowsOk : List (List Int) → Bool
  | [] => true
  | y :: ys => rowOk y && rowsOk ys
theorem rowsOk_mem : ∀ {ls : List (List Int)}, rowsOk ls = true → ∀ y ∈ ls, rowOk y = true
  | z :: zs, h, y, hy => by
    simp only [rowsOk, Bool.and_eq_true] at h
    rcases List.mem_cons.1 hy with rfl | hy
    · exact h.1
    · exact rowsOk_mem h.2 y hy
theorem row_len {y : List Int} (h : rowOk y = true) : y.length = 12 := by simp [rowOk] at h; exact h.1
theorem row_rd {y : List Int} (h : rowOk y = true) (i : Nat) (hi : i < 12) : 0 ≤ rd y (i : Int) ∧ rd y (i : Int) ≤ 100000000000 := by
  have hl := row_len h
  simp only [rowOk, Bool.and_eq_true] at h
  have hg : y[i]? = some (y[i]'(by omega)) := List.getElem?_eq_getElem (by omega)
  rw [rd_get hg]
  exact allIn_get h.2 hg
def piles : List (List Int) → Int → Int
  | [], m => m
  | y :: ys, m => piles ys (max m (rd y 10))
/-- The first row that doesn't balance, from index i on. -/
def imbal : List (List Int) → Nat → Int → Int → Nat
  | [], i, _, _ => i
  | y :: ys, i, t, m => if rowHolds y = true ∧ rd y 10 = t + (rd y 4 - rd y 8) ∧ rd y 11 = m + (rd y 5 - rd y 9) then imbal ys (i + 1) (rd y 10) (rd y 11) else i
def machOk (a b : Int) : Bool := decide (0 ≤ a ∧ a ≤ 100 ∧ 0 ≤ b ∧ b ≤ 100)
/-- The states of a machine: d shifts, from shift s on; 'now': is it ready? -/
def states (f r key : Int) : Nat → Int → Bool → List Bool
  | 0, _, _ => []
  | d + 1, s, now => now :: states f r key d (s + 1) (if Int.tmod (mix [key, s, 3, 100]) 100 < (if now = true then f else r) then !now else now)
theorem states_length (f r key : Int) : ∀ (d : Nat) (s : Int) (now : Bool), (states f r key d s now).length = d
  | 0, _, _ => rfl
  | d + 1, s, now => by simp [states, states_length]
/-- Tonnes and losses of a bench. -/
def lossWaste : List Int → List Bool → Int → Int → Int × Int
  | v :: vs, b :: bs, l, w => if b = true then lossWaste vs bs l (w + max 0 (-v)) else lossWaste vs bs (l + max 0 v) w
  | _, _, l, w => (l, w)
def dugSum : List Int → List Bool → Int → Int
  | v :: vs, b :: bs, s => dugSum vs bs (if b = true then s + v else s)
  | _, _, s => s
def modelOk (x y z : Int) (t g r : List Int) : Bool := gridOk x y z && decide ((t.length : Int) = x * y * z ∧ (g.length : Int) = x * y * z ∧ (r.length : Int) = x * y * z) && (allIn 0 10000 t && (allIn 0 1000 g && allIn 0 4 r))
theorem sq_bd {d : Int} (h : -1000 ≤ d ∧ d ≤ 1000) : 0 ≤ d * d ∧ d * d ≤ 1000000 := by
  rcases Int.le_total 0 d with h0 | h0
  · exact ⟨Int.mul_nonneg h0 h0, Int.mul_le_mul h.2 h.2 h0 (by omega)⟩
  · rw [← Int.neg_mul_neg]
    exact ⟨Int.mul_nonneg (by omega) (by omega), Int.mul_le_mul (a := -d) (b := -d) (c := 1000) (d := 1000) (by omega) (by omega) (by omega) (by omega)⟩
/-- The square of the distance of a place from the middle of a block's place. -/
def farOf (px py pz x y z : Int) : Int := (x - 10 * px - 5) * (x - 10 * px - 5) + (y - 10 * py - 5) * (y - 10 * py - 5) + (z - 10 * pz - 5) * (z - 10 * pz - 5)
theorem far_nonneg (px py pz x y z : Int) : 0 ≤ farOf px py pz x y z := by
  have h : ∀ d : Int, 0 ≤ d * d := fun d => by
    rcases Int.le_total 0 d with h0 | h0
    · exact Int.mul_nonneg h0 h0
    · rw [← Int.neg_mul_neg]; exact Int.mul_nonneg (by omega) (by omega)
  have a := h (x - 10 * px - 5); have b := h (y - 10 * py - 5); have c := h (z - 10 * pz - 5)
  unfold farOf; omega
theorem far_wrap {px py pz x y z : Int} (hx : 0 ≤ px ∧ px ≤ 10) (hy : 0 ≤ py ∧ py ≤ 10) (hz : 0 ≤ pz ∧ pz ≤ 10) (kx : 0 ≤ x ∧ x ≤ 100) (ky : 0 ≤ y ∧ y ≤ 100) (kz : 0 ≤ z ∧ z ≤ 100) :
    wrap64 ((wrap64 ((wrap64 ((wrap64 ((wrap64 (x - (wrap64 (10 * px)))) - 5)) * (wrap64 ((wrap64 (x - (wrap64 (10 * px)))) - 5)))) + (wrap64 ((wrap64 ((wrap64 (y - (wrap64 (10 * py)))) - 5)) * (wrap64 ((wrap64 (y - (wrap64 (10 * py)))) - 5)))))) + (wrap64 ((wrap64 ((wrap64 (z - (wrap64 (10 * pz)))) - 5)) * (wrap64 ((wrap64 (z - (wrap64 (10 * pz)))) - 5))))) = farOf px py pz x y z := by
  have a := sq_bd (d := x - 10 * px - 5) (by omega)
  have b := sq_bd (d := y - 10 * py - 5) (by omega)
  have c := sq_bd (d := z - 10 * pz - 5) (by omega)
  rw [wrap_id (x := 10 * px) (by omega) (by omega), wrap_id (x := 10 * py) (by omega) (by omega), wrap_id (x := 10 * pz) (by omega) (by omega),
    wrap_id (x := x - 10 * px) (by omega) (by omega), wrap_id (x := y - 10 * py) (by omega) (by omega), wrap_id (x := z - 10 * pz) (by omega) (by omega),
    wrap_id (x := x - 10 * px - 5) (by omega) (by omega), wrap_id (x := y - 10 * py - 5) (by omega) (by omega), wrap_id (x := z - 10 * pz - 5) (by omega) (by omega),
    wrap_id (x := (x - 10 * px - 5) * (x - 10 * px - 5)) (by omega) (by omega), wrap_id (x := (y - 10 * py - 5) * (y - 10 * py - 5)) (by omega) (by omega), wrap_id (x := (z - 10 * pz - 5) * (z - 10 * pz - 5)) (by omega) (by omega),
    wrap_id (x := (x - 10 * px - 5) * (x - 10 * px - 5) + (y - 10 * py - 5) * (y - 10 * py - 5)) (by omega) (by omega), wrap_id (by omega) (by omega)]
  rfl
def near {α : Type} (far : α → Int) : List α → Int → Int → Int → Int
  | [], _, best, _ => best
  | h :: hs, i, best, least => if least < 0 ∨ far h < least then near far hs (i + 1) i (far h) else near far hs (i + 1) best least
def hasBlock (x y z i : Int) : Bool := gridOk x y z && decide (0 ≤ i ∧ i < x * y * z)
theorem place_of {x y z i : Int} (h : hasBlock x y z i = true) : (0 ≤ i % x ∧ i % x < x) ∧ (0 ≤ i / x % y ∧ i / x % y < y) ∧ (0 ≤ i / x / y ∧ i / x / y < z) ∧ 0 ≤ i / x ∧ i / x ≤ 120 := by
  simp only [hasBlock, Bool.and_eq_true, decide_eq_true_eq] at h
  have hb := grid_ok h.1
  have hi := h.2
  have h1 : 0 ≤ i / x := Int.ediv_nonneg (by omega) (by omega)
  have h2 : i / x < y * z := by
    apply Int.ediv_lt_of_lt_mul (by omega)
    rw [Int.mul_comm (y * z) x, ← Int.mul_assoc]; exact hi.2
  have h3 : i / x / y < z := by
    apply Int.ediv_lt_of_lt_mul (by omega)
    rw [Int.mul_comm z y]; exact h2
  have h4 : i / x ≤ i := Int.ediv_le_self _ (by omega)
  exact ⟨⟨Int.emod_nonneg _ (by omega), Int.emod_lt_of_pos _ (by omega)⟩, ⟨Int.emod_nonneg _ (by omega), Int.emod_lt_of_pos _ (by omega)⟩, ⟨Int.ediv_nonneg h1 (by omega), h3⟩, h1, by omega⟩
end Go.Proofs.Ytkoacjepochjaaa.Model
namespace Go.Proofs.Ytkoacjepochjaaa.PureFnExactNearestHole
open Go.RowKit Go.Proofs.Ytkoacjepochjaaa.PFnExactNearestHole Go.Proofs.YtkoacjepochjaaaW.PrintWords Go.Proofs.YtkoacjepochjaaaW.PrintLast Go.Proofs.YtkoacjepochjaaaW.PrintMore Go.Proofs.Ytkoacjepochjaaa.Kit Go.Proofs.Ytkoacjepochjaaa.Model
theorem laws_szHoleS_eq (l : List S135) (a : Int) (h0 : 0 ≤ a) (ha : a ≤ 1048576) (hn : l.length ≤ 9223372036854775807) : laws_szHoleS.f l a = some (if a < l.length then -1 else a - l.length) := by
  simp only [laws_szHoleS.f]
  rw [wrap_id (by omega) (by omega)]
  split
  · rw [if_pos (by omega)]
  · rw [if_neg (by omega)]
theorem spec_l1In_eq (a lo hi : Int) : spec_l1In.f a lo hi = some (decide (lo ≤ a ∧ a ≤ hi)) := by
  unfold spec_l1In.f
  split
  · congr 1; simp; omega
  · congr 1; simp; omega
theorem spec_grGood_eq (x y z : Int) : spec_grGood.f x y z = some (gridOk x y z) := by
  simp only [spec_grGood.f, spec_l1In_eq, Option.bind_some, decide_eq_true_eq, gridOk]
  by_cases hx : 1 ≤ x ∧ x ≤ 8
  · rw [if_pos hx]
    by_cases hy : 1 ≤ y ∧ y ≤ 6
    · rw [if_pos hy]
      by_cases hz : 1 ≤ z ∧ z ≤ 5
      · rw [if_pos hz, grid_wrap hx hy hz]; congr 1; simp [hx, hy, hz]
      · rw [if_neg hz]; congr 1; symm; simp; omega
    · rw [if_neg hy]; congr 1; symm; simp; omega
  · rw [if_neg hx]; congr 1; symm; simp; omega
theorem spec_grCount_eq (x y z : Int) (h : gridOk x y z = true) : spec_grCount.f x y z = some (x * y * z) := by
  have hb := grid_ok h
  simp only [spec_grCount.f]
  rw [grid_wrap hb.1 hb.2.1 hb.2.2.1]
theorem spec_grHas_eq (x y z i : Int) : spec_grHas.f x y z i = some (hasBlock x y z i) := by
  simp only [spec_grHas.f, spec_grGood_eq, Option.bind_some, hasBlock]
  by_cases h : gridOk x y z = true
  · have hb := grid_ok h
    rw [if_pos h, spec_grCount_eq x y z h, Option.bind_some, wrap_id (by omega) (by omega), spec_l1In_eq, Option.bind_some]
    simp only [h, Bool.true_and]; congr 1; rw [decide_eq_decide]; omega
  · rw [if_neg h]; simp [h]
theorem spec_bhHole_eq (gx gy gz x y z t g : Int) (hg : gridOk gx gy gz = true) : spec_bhHole.f gx gy gz x y z t g = some (holeOk gx gy gz x y z t g) := by
  have hb := grid_ok hg
  simp only [spec_bhHole.f, spec_l1In_eq, Option.bind_some, decide_eq_true_eq, holeOk]
  rw [wrap_id (x := 10 * gx) (by omega) (by omega), wrap_id (x := 10 * gx - 1) (by omega) (by omega), wrap_id (x := 10 * gy) (by omega) (by omega), wrap_id (x := 10 * gy - 1) (by omega) (by omega), wrap_id (x := 10 * gz) (by omega) (by omega), wrap_id (x := 10 * gz - 1) (by omega) (by omega)]
  repeat' split
  all_goals first | (congr 1; rw [decide_eq_decide]; omega) | (congr 1; symm; simp; omega)
def holesOk (gx gy gz : Int) : List S132 → Bool
  | [] => true
  | h :: hs => holeOk gx gy gz h.f0 h.f1 h.f2 h.f3 h.f4 && holesOk gx gy gz hs
theorem impl_areHoles_l0 (gx gy gz : Int) (hg : gridOk gx gy gz = true) (l : List S132) (hn : l.length ≤ 9223372036854775807) : ∀ (ys : List S132) (i : Nat), l.drop i = ys → Ev (fun k => impl_areHoles.l0 k l (l.length : Int) i gx gy gz) (holesOk gx gy gz ys)
  | [], i, h => Ev.next0 fun k => by
      have h0 := drop_nil h
      simp only [impl_areHoles.l0, holesOk]
      rw [if_neg (by omega)]
  | y :: ys, i, h => by
      obtain ⟨h1, h2, h3⟩ := drop_cons h
      have hb := grid_ok hg
      refine Ev.next1 (impl_areHoles_l0 gx gy gz hg l hn ys (i + 1) h3) fun k hk => ?_
      have e : rd_T132 l i = y := getD_drop h
      simp only [impl_areHoles.l0, e]
      rw [if_pos (by omega), if_pos (by omega), if_pos (by omega), wrap_succ h1 hn, wrap_id (x := 10 * gx) (by omega) (by omega), wrap_id (x := 10 * gy) (by omega) (by omega), wrap_id (x := 10 * gz) (by omega) (by omega)]
      by_cases hy : 0 ≤ y.f0 ∧ y.f0 < 10 * gx ∧ 0 ≤ y.f1 ∧ y.f1 < 10 * gy ∧ 0 ≤ y.f2 ∧ y.f2 < 10 * gz ∧ 1 ≤ y.f3 ∧ y.f3 ≤ 1000 ∧ 0 ≤ y.f4 ∧ y.f4 ≤ 1000
      · rw [if_neg (by omega), if_neg (by omega), if_neg (by omega), if_neg (by omega), if_neg (by omega), if_neg (by omega), if_neg (by omega), if_neg (by omega), if_neg (by omega), if_neg (by omega), hk]
        simp [holesOk, holeOk, hy]
      · have e2 : holesOk gx gy gz (y :: ys) = false := by
          have : holeOk gx gy gz y.f0 y.f1 y.f2 y.f3 y.f4 = false := decide_eq_false hy
          simp [holesOk, this]
        rw [e2]
        repeat' split
        all_goals first | rfl | (exfalso; omega)
theorem impl_areHoles_ev (gx gy gz : Int) (hg : gridOk gx gy gz = true) (l : List S132) (hn : l.length ≤ 9223372036854775807) : Ev (fun k => impl_areHoles.f k gx gy gz l) (decide (l.length ≤ 40) && holesOk gx gy gz l) :=
  Ev.of1 (impl_areHoles_l0 gx gy gz hg l hn l 0 rfl) fun k hk => by
    simp only [impl_areHoles.f]
    by_cases h : l.length ≤ 40
    · rw [if_neg (by omega)]; simpa [h] using hk
    · rw [if_pos (by omega)]; simp [h]
-- needs: impl_areHoles spec_bhHole
theorem spec_bhList_l0 (gx gy gz : Int) (hg : gridOk gx gy gz = true) (l : List S132) (hn : l.length ≤ 9223372036854775807) : ∀ (ys : List S132) (i : Nat), l.drop i = ys → Ev (fun k => spec_bhList.l0 k l l (l.length : Int) i gx gy gz) (decide (l.length ≤ 40) && holesOk gx gy gz ys)
  | [], i, h => Ev.next0 fun k => by
      have h0 := drop_nil h
      simp only [spec_bhList.l0, holesOk]
      rw [if_neg (by omega)]; congr 1; simp; omega
  | y :: ys, i, h => by
      obtain ⟨h1, h2, h3⟩ := drop_cons h
      refine Ev.next1 (spec_bhList_l0 gx gy gz hg l hn ys (i + 1) h3) fun k hk => ?_
      have e : rd_T132 l i = y := getD_drop h
      simp only [spec_bhList.l0, e, spec_bhHole_eq gx gy gz _ _ _ _ _ hg, Option.bind_some]
      rw [if_pos (by omega), if_pos (by omega), if_pos (by omega), wrap_succ h1 hn]
      by_cases hy : holeOk gx gy gz y.f0 y.f1 y.f2 y.f3 y.f4 = true
      · rw [if_pos hy, hk]; simp [holesOk, hy]
      · rw [if_neg hy]; simp [holesOk, hy]
theorem spec_bhList_ev (gx gy gz : Int) (hg : gridOk gx gy gz = true) (l : List S132) (hn : l.length ≤ 9223372036854775807) : Ev (fun k => spec_bhList.f k gx gy gz l) (decide (l.length ≤ 40) && holesOk gx gy gz l) :=
  Ev.of1 (spec_bhList_l0 gx gy gz hg l hn l 0 rfl) fun k hk => by simp only [spec_bhList.f]; exact hk
theorem spec_bhAsked_ev (x y z i : Int) (l : List S132) (hn : l.length ≤ 9223372036854775807) : Ev (fun k => spec_bhAsked.f k x y z l i) (hasBlock x y z i && (decide (l.length ≤ 40) && holesOk x y z l)) := by
  by_cases h : hasBlock x y z i = true
  · have hg : gridOk x y z = true := by simp only [hasBlock, Bool.and_eq_true] at h; exact h.1
    refine Ev.of1 (spec_bhList_ev x y z hg l hn) fun k hk => ?_
    simp only [spec_bhAsked.f, spec_grHas_eq, Option.bind_some, hk]
    rw [if_pos h]; simp [h]
  · refine Ev.all fun k => ?_
    simp only [spec_bhAsked.f, spec_grHas_eq, Option.bind_some]
    rw [if_neg h]; simp [h]
theorem spec_grX_eq (x y z i : Int) (h : hasBlock x y z i = true) : spec_grX.f x y z i = some (i % x) := by
  have hp := place_of h
  simp only [hasBlock, Bool.and_eq_true, decide_eq_true_eq] at h
  have hb := grid_ok h.1
  simp only [spec_grX.f]
  rw [if_neg (by omega), Int.tmod_eq_emod_of_nonneg (by omega)]
theorem spec_grY_eq (x y z i : Int) (h : hasBlock x y z i = true) : spec_grY.f x y z i = some (i / x % y) := by
  have hp := place_of h
  simp only [hasBlock, Bool.and_eq_true, decide_eq_true_eq] at h
  have hb := grid_ok h.1
  simp only [spec_grY.f]
  rw [if_neg (by omega), if_neg (by omega), Int.tdiv_eq_ediv_of_nonneg (by omega), wrap_id (by omega) (by omega), Int.tmod_eq_emod_of_nonneg (by omega)]
theorem spec_grZ_eq (x y z i : Int) (h : hasBlock x y z i = true) : spec_grZ.f x y z i = some (i / x / y) := by
  have hp := place_of h
  simp only [hasBlock, Bool.and_eq_true, decide_eq_true_eq] at h
  have hb := grid_ok h.1
  have e1 : Int.tdiv i x = i / x := Int.tdiv_eq_ediv_of_nonneg (by omega)
  have e3 : wrap64 (i / x) = i / x := wrap_id (by omega) (by omega)
  have e5 : Int.tdiv (i / x) y = i / x / y := Int.tdiv_eq_ediv_of_nonneg (by omega)
  have e6 : wrap64 (i / x / y) = i / x / y := wrap_id (by omega) (by omega)
  simp only [spec_grZ.f, e1, e3, e5, e6]
  rw [if_neg (by omega), if_neg (by omega)]
-- needs: impl_areHoles spec_grX spec_grY spec_grZ
theorem holesOk_mem {gx gy gz : Int} : ∀ {l : List S132}, holesOk gx gy gz l = true → ∀ h ∈ l, holeOk gx gy gz h.f0 h.f1 h.f2 h.f3 h.f4 = true
  | q :: qs, h, y, hy => by
    simp only [holesOk, Bool.and_eq_true] at h
    rcases List.mem_cons.1 hy with rfl | hy
    · exact h.1
    · exact holesOk_mem h.2 y hy
theorem spec_bhFar_eq (gx gy gz x y z t g i : Int) (h : hasBlock gx gy gz i = true) (hh : holeOk gx gy gz x y z t g = true) : spec_bhFar.f gx gy gz x y z t g i = some (farOf (i % gx) (i / gx % gy) (i / gx / gy) x y z) := by
  have hp := place_of h
  have hb : gridOk gx gy gz = true := by simp only [hasBlock, Bool.and_eq_true] at h; exact h.1
  have hb := grid_ok hb
  simp only [holeOk, decide_eq_true_eq] at hh
  simp only [spec_bhFar.f, spec_grX_eq gx gy gz i h, spec_grY_eq gx gy gz i h, spec_grZ_eq gx gy gz i h, Option.bind_some]
  rw [far_wrap (by omega) (by omega) (by omega) (by omega) (by omega) (by omega)]
def farH (gx gy i : Int) (h : S132) : Int := farOf (i % gx) (i / gx % gy) (i / gx / gy) h.f0 h.f1 h.f2
def nearestOf (gx gy gz i : Int) (l : List S132) : Int × Bool := if hasBlock gx gy gz i = true ∧ (l.length ≤ 40 ∧ holesOk gx gy gz l = true) ∧ l ≠ [] then (near (farH gx gy i) l 0 0 (-1), true) else (0, false)
theorem spec_NearestHole_l0 (gx gy gz i : Int) (hb : hasBlock gx gy gz i = true) (l : List S132) (hn : l.length ≤ 1048576) (hl : holesOk gx gy gz l = true) : ∀ (ys : List S132) (j b : Nat) (hbest : S132), l.drop j = ys → l[b]? = some hbest →
    Ev (fun k => spec_NearestHole.l0 k l i b l (l.length : Int) j gx gy gz) (near (farH gx gy i) ys j b (farH gx gy i hbest), true)
  | [], j, b, hbest, h, hq => Ev.next0 fun k => by
      have h0 := drop_nil h
      simp only [spec_NearestHole.l0, near]
      rw [if_neg (by omega)]
  | y :: ys, j, b, hbest, h, hq => by
      obtain ⟨h1, h2, h3⟩ := drop_cons h
      have hbl : b < l.length := (List.getElem?_eq_some_iff.1 hq).1
      have oy := holesOk_mem hl y (List.mem_of_getElem? h2)
      have ob := holesOk_mem hl hbest (List.mem_of_getElem? hq)
      have e : rd_T132 l j = y := getD_drop h
      have e' : rd_T132 l b = hbest := getD_get hq
      have f1 : spec_bhFar.f gx gy gz y.f0 y.f1 y.f2 y.f3 y.f4 i = some (farH gx gy i y) := spec_bhFar_eq gx gy gz y.f0 y.f1 y.f2 y.f3 y.f4 i hb oy
      have f2 : spec_bhFar.f gx gy gz hbest.f0 hbest.f1 hbest.f2 hbest.f3 hbest.f4 i = some (farH gx gy i hbest) := spec_bhFar_eq gx gy gz hbest.f0 hbest.f1 hbest.f2 hbest.f3 hbest.f4 i hb ob
      have hnn : 0 ≤ farH gx gy i hbest := far_nonneg _ _ _ _ _ _
      by_cases hc : farH gx gy i y < farH gx gy i hbest
      · refine Ev.next1 (spec_NearestHole_l0 gx gy gz i hb l hn hl ys (j + 1) j y h3 h2) fun k hk => ?_
        simp only [spec_NearestHole.l0, e, e', f1, f2, Option.bind_some, near]
        rw [if_pos (by omega), if_pos (by omega), if_pos (by omega), if_pos (by omega), if_pos (by omega), if_pos hc, if_pos (Or.inr hc), wrap_succ h1 (by omega)]
        exact hk
      · refine Ev.next1 (spec_NearestHole_l0 gx gy gz i hb l hn hl ys (j + 1) b hbest h3 hq) fun k hk => ?_
        simp only [spec_NearestHole.l0, e, e', f1, f2, Option.bind_some, near]
        rw [if_pos (by omega), if_pos (by omega), if_pos (by omega), if_pos (by omega), if_pos (by omega), if_neg hc, if_neg (by omega), wrap_succ h1 (by omega)]
        exact hk
theorem spec_NearestHole_no (l : List S132) (gx gy gz i : Int) : Ev (fun k => spec_NearestHole.j0 k l i true gx gy gz) (0, false) := Ev.next0 fun k => by simp [spec_NearestHole.j0]
theorem spec_NearestHole_ev (gx gy gz i : Int) (l : List S132) (hn : l.length ≤ 1048576) : Ev (fun k => spec_NearestHole.f k gx gy gz l i) (nearestOf gx gy gz i l) := by
  have ha := spec_bhAsked_ev gx gy gz i l (by omega)
  by_cases h : hasBlock gx gy gz i = true ∧ (l.length ≤ 40 ∧ holesOk gx gy gz l = true)
  · have e1 : (hasBlock gx gy gz i && (decide (l.length ≤ 40) && holesOk gx gy gz l)) = true := by simp [h]
    cases l with
    | nil =>
      refine (ev_and ha <| ev_one (spec_NearestHole_no [] gx gy gz i)).ev fun k ⟨h1, h2⟩ => ?_
      simp only [spec_NearestHole.f, h1, Option.bind_some]
      rw [if_pos e1, nearestOf, if_neg (by simp)]; exact h2
    | cons q qs =>
      have hj : Ev (fun k => spec_NearestHole.j0 k (q :: qs) i false gx gy gz) (near (farH gx gy i) (q :: qs) 0 0 (-1), true) := by
        refine Ev.next1 (spec_NearestHole_l0 gx gy gz i h.1 (q :: qs) hn h.2.2 (q :: qs) 0 0 q rfl rfl) fun k hk => ?_
        simp only [spec_NearestHole.j0]
        rw [if_neg (by simp)]
        refine hk.trans ?_
        simp only [near]
        rw [if_neg (by have : 0 ≤ farH gx gy i q := far_nonneg _ _ _ _ _ _; omega), if_pos (by omega)]; rfl
      refine (ev_and ha <| ev_one hj).ev fun k ⟨h1, h2⟩ => ?_
      simp only [spec_NearestHole.f, h1, Option.bind_some]
      rw [if_pos e1, nearestOf, if_pos ⟨h.1, h.2, by simp⟩, show ((((q :: qs).length : Nat) : Int) == 0) = false by simp; omega]
      exact h2
  · refine (ev_and ha <| ev_one (spec_NearestHole_no l gx gy gz i)).ev fun k ⟨h1, h2⟩ => ?_
    simp only [spec_NearestHole.f, h1, Option.bind_some]
    rw [if_neg (by simpa using h), nearestOf, if_neg (fun q => h ⟨q.1, q.2.1⟩)]; exact h2
def toHole (y : S135) : S132 := ⟨y.f0, y.f1, y.f2, y.f3, y.f4⟩
theorem laws_toHoleS_l0 (l : List S135) (hn : l.length ≤ 9223372036854775807) : ∀ (ys : List S135) (i : Nat) (x : List S132), l.drop i = ys → x.length = (l.map toHole).length → x.take i = (l.map toHole).take i → Ev (fun k => laws_toHoleS.l0 k l x i) (l.map toHole)
  | [], i, x, h, hl, ht => Ev.next0 fun k => by
      have h0 := drop_nil h
      have h1 : (l.map toHole).length = l.length := by simp
      simp only [laws_toHoleS.l0]
      rw [if_neg (by omega), copy_end hl ht (by omega)]
  | y :: ys, i, x, h, hl, ht => by
      obtain ⟨h1, h2, h3⟩ := drop_cons h
      have hm : (l.map toHole).length = l.length := by simp
      have hg : (l.map toHole)[i]? = some (toHole y) := by simp [h2]
      obtain ⟨c1, c2⟩ := copy_step hg hl ht
      refine Ev.next1 (laws_toHoleS_l0 l hn ys (i + 1) (x.set i (toHole y)) h3 c1 c2) fun k hk => ?_
      have e : rd_T135 l i = y := getD_drop h
      simp only [laws_toHoleS.l0, e, laws_toHole.f, Option.bind_some]
      rw [if_pos (by omega), if_pos (by omega), if_pos (by omega), wrap_succ h1 hn, toNat_cast]
      exact hk
theorem laws_toHoleS_ev (l : List S135) (hn : l.length ≤ 1048576) : Ev (fun k => laws_toHoleS.f k l) (l.map toHole) :=
  Ev.of1 (laws_toHoleS_l0 l (by omega) l 0 (List.replicate ((l.length : Int)).toNat z132) rfl (by simp) rfl) fun k hk => by
    simp only [laws_toHoleS.f]
    rw [if_pos (by omega), if_pos (by omega)]
    exact hk
theorem impl_IsGrid_eq (x y z : Int) : impl_IsGrid.f x y z = some (gridOk x y z) := by
  simp only [impl_IsGrid.f, gridOk]
  by_cases hx : 1 ≤ x ∧ x ≤ 8
  · rw [if_pos (by omega), if_pos (by omega)]
    by_cases hy : 1 ≤ y ∧ y ≤ 6
    · rw [if_pos (by omega), if_pos (by omega)]
      by_cases hz : 1 ≤ z ∧ z ≤ 5
      · rw [if_pos (by omega), if_pos (by omega), grid_wrap hx hy hz]; congr 1; simp [hx, hy, hz]
      · have e : decide (1 ≤ x ∧ x ≤ 8 ∧ 1 ≤ y ∧ y ≤ 6 ∧ 1 ≤ z ∧ z ≤ 5 ∧ x * y * z ≤ 120) = false := by simp; omega
        rw [e]; split
        · rw [if_neg (by omega)]
        · rfl
    · have e : decide (1 ≤ x ∧ x ≤ 8 ∧ 1 ≤ y ∧ y ≤ 6 ∧ 1 ≤ z ∧ z ≤ 5 ∧ x * y * z ≤ 120) = false := by simp; omega
      rw [e]; split
      · rw [if_neg (by omega)]
      · rfl
  · have e : decide (1 ≤ x ∧ x ≤ 8 ∧ 1 ≤ y ∧ y ≤ 6 ∧ 1 ≤ z ∧ z ≤ 5 ∧ x * y * z ≤ 120) = false := by simp; omega
    rw [e]; split
    · rw [if_neg (by omega)]
    · rfl
theorem impl_blocksOf_eq (x y z : Int) (h : gridOk x y z = true) : impl_blocksOf.f x y z = some (x * y * z) := by
  have hb := grid_ok h
  simp only [impl_blocksOf.f]
  rw [grid_wrap hb.1 hb.2.1 hb.2.2.1]
theorem impl_hasBlock_eq (x y z i : Int) : impl_hasBlock.f x y z i = some (hasBlock x y z i) := by
  simp only [impl_hasBlock.f, impl_IsGrid_eq, Option.bind_some, hasBlock]
  by_cases h : gridOk x y z = true
  · rw [if_pos h, impl_blocksOf_eq x y z h, Option.bind_some]
    simp only [h, Bool.true_and]
    split
    · congr 1; rw [decide_eq_decide]; omega
    · congr 1; symm; simp; omega
  · rw [if_neg h]; simp [h]
theorem impl_placeOf_eq (x y z i : Int) (h : hasBlock x y z i = true) : impl_placeOf.f x y z i = some (i % x, i / x % y, i / x / y) := by
  have hp := place_of h
  simp only [hasBlock, Bool.and_eq_true, decide_eq_true_eq] at h
  have hb := grid_ok h.1
  have e1 : Int.tdiv i x = i / x := Int.tdiv_eq_ediv_of_nonneg (by omega)
  have e2 : Int.tmod i x = i % x := Int.tmod_eq_emod_of_nonneg (by omega)
  have e3 : wrap64 (i / x) = i / x := wrap_id (by omega) (by omega)
  have e4 : Int.tmod (i / x) y = i / x % y := Int.tmod_eq_emod_of_nonneg (by omega)
  have e5 : Int.tdiv (i / x) y = i / x / y := Int.tdiv_eq_ediv_of_nonneg (by omega)
  have e6 : wrap64 (i / x / y) = i / x / y := wrap_id (by omega) (by omega)
  simp only [impl_placeOf.f, e1, e2, e3, e4, e5, e6]
  rw [if_neg (by omega), if_neg (by omega)]
-- needs: spec_NearestHole
theorem impl_NearestHole_l0 (gx gy gz i : Int) (hb : hasBlock gx gy gz i = true) (l : List S132) (hn : l.length ≤ 1048576) (hl : holesOk gx gy gz l = true) : ∀ (ys : List S132) (j : Nat) (b d : Int), l.drop j = ys →
    Ev (fun k => impl_NearestHole.l0 k (i % gx) (i / gx % gy) (i / gx / gy) b d l (l.length : Int) j) (near (farH gx gy i) ys j b d, true)
  | [], j, b, d, h => Ev.next0 fun k => by
      have h0 := drop_nil h
      simp only [impl_NearestHole.l0, near]
      rw [if_neg (by omega)]
  | y :: ys, j, b, d, h => by
      obtain ⟨h1, h2, h3⟩ := drop_cons h
      have hp := place_of hb
      have hg : gridOk gx gy gz = true := by simp only [hasBlock, Bool.and_eq_true] at hb; exact hb.1
      have hg := grid_ok hg
      have oy := holesOk_mem hl y (List.mem_of_getElem? h2)
      simp only [holeOk, decide_eq_true_eq] at oy
      have e : rd_T132 l j = y := getD_drop h
      have f1 := far_wrap (px := i % gx) (py := i / gx % gy) (pz := i / gx / gy) (x := y.f0) (y := y.f1) (z := y.f2) (by omega) (by omega) (by omega) (by omega) (by omega) (by omega)
      have ff : farOf (i % gx) (i / gx % gy) (i / gx / gy) y.f0 y.f1 y.f2 = farH gx gy i y := rfl
      by_cases hc : d < 0 ∨ farH gx gy i y < d
      · refine Ev.next1 (impl_NearestHole_l0 gx gy gz i hb l hn hl ys (j + 1) j (farH gx gy i y) h3) fun k hk => ?_
        simp only [impl_NearestHole.l0, e, f1, near]
        simp only [ff]
        rw [if_pos (by omega), if_pos (by omega), if_pos (by omega), wrap_succ h1 (by omega), if_pos hc]
        by_cases hd : d < 0
        · rw [if_pos hd]; exact hk
        · rw [if_neg hd, if_pos (by rcases hc with hc | hc; exact absurd hc hd; exact hc)]; exact hk
      · refine Ev.next1 (impl_NearestHole_l0 gx gy gz i hb l hn hl ys (j + 1) b d h3) fun k hk => ?_
        simp only [impl_NearestHole.l0, e, f1, near]
        simp only [ff]
        rw [if_pos (by omega), if_pos (by omega), if_pos (by omega), wrap_succ h1 (by omega), if_neg hc, if_neg (fun q => hc (Or.inl q)), if_neg (fun q => hc (Or.inr q))]
        exact hk
theorem impl_NearestHole_no (l : List S132) (gx gy gz i : Int) : Ev (fun k => impl_NearestHole.j0 k l i true gx gy gz) (0, false) := Ev.next0 fun k => by simp [impl_NearestHole.j0]
theorem impl_NearestHole_ev (gx gy gz i : Int) (l : List S132) (hn : l.length ≤ 1048576) : Ev (fun k => impl_NearestHole.f k gx gy gz l i) (nearestOf gx gy gz i l) := by
  by_cases hb : hasBlock gx gy gz i = true
  · have hg : gridOk gx gy gz = true := by simp only [hasBlock, Bool.and_eq_true] at hb; exact hb.1
    have ha := impl_areHoles_ev gx gy gz hg l (by omega)
    by_cases h : l.length ≤ 40 ∧ holesOk gx gy gz l = true
    · have e1 : (decide (l.length ≤ 40) && holesOk gx gy gz l) = true := by simp [h]
      cases l with
      | nil =>
        refine (ev_and ha <| ev_one (impl_NearestHole_no [] gx gy gz i)).ev fun k ⟨h1, h2⟩ => ?_
        simp only [impl_NearestHole.f, impl_hasBlock_eq, h1, Option.bind_some]
        rw [if_pos hb, if_pos e1, nearestOf, if_neg (by simp)]; exact h2
      | cons q qs =>
        have hj : Ev (fun k => impl_NearestHole.j0 k (q :: qs) i false gx gy gz) (near (farH gx gy i) (q :: qs) 0 0 (-1), true) := by
          refine Ev.next1 (impl_NearestHole_l0 gx gy gz i hb (q :: qs) hn h.2 (q :: qs) 0 0 (-1) rfl) fun k hk => ?_
          simp only [impl_NearestHole.j0, impl_placeOf_eq gx gy gz i hb, Option.bind_some]
          rw [if_neg (by simp)]
          exact hk
        refine (ev_and ha <| ev_one hj).ev fun k ⟨h1, h2⟩ => ?_
        simp only [impl_NearestHole.f, impl_hasBlock_eq, h1, Option.bind_some]
        rw [if_pos hb, if_pos e1, nearestOf, if_pos ⟨hb, h, by simp⟩, show ((((q :: qs).length : Nat) : Int) == 0) = false by simp; omega]
        exact h2
    · refine (ev_and ha <| ev_one (impl_NearestHole_no l gx gy gz i)).ev fun k ⟨h1, h2⟩ => ?_
      simp only [impl_NearestHole.f, impl_hasBlock_eq, h1, Option.bind_some]
      rw [if_pos hb, if_neg (by simpa using h), nearestOf, if_neg (fun q => h q.2.1)]; exact h2
  · refine (ev_one (impl_NearestHole_no l gx gy gz i)).ev fun k h2 => ?_
    simp only [impl_NearestHole.f, impl_hasBlock_eq, Option.bind_some]
    rw [if_neg hb, nearestOf, if_neg (fun q => hb q.1)]; exact h2
theorem laws_eqHole_self (a b c d e : Int) : laws_eqHole.f a b c d e a b c d e = some true := by simp [laws_eqHole.f]
theorem laws_eqHoleS_l0 (l : List S132) (hn : l.length ≤ 9223372036854775807) : ∀ (ys : List S132) (i : Nat), l.drop i = ys → Ev (fun k => laws_eqHoleS.l0 k l l i) true
  | [], i, h => Ev.next0 fun k => by
      have h0 := drop_nil h
      simp only [laws_eqHoleS.l0]
      rw [if_neg (by omega)]
  | y :: ys, i, h => by
      obtain ⟨h1, h2, h3⟩ := drop_cons h
      refine Ev.next1 (laws_eqHoleS_l0 l hn ys (i + 1) h3) fun k hk => ?_
      simp only [laws_eqHoleS.l0, laws_eqHole_self, Option.bind_some]
      rw [if_pos (by omega), if_pos (by omega), if_pos (by omega), if_pos (by simp), wrap_succ h1 hn]
      exact hk
theorem laws_eqHoleS_ev (l : List S132) (hn : l.length ≤ 9223372036854775807) : Ev (fun k => laws_eqHoleS.f k l l) true :=
  Ev.of1 (laws_eqHoleS_l0 l hn l 0 rfl) fun k hk => by
    simp only [laws_eqHoleS.f]
    rw [if_pos (by simp)]
    exact hk
theorem j0_ev (l : List S135) (hn : l.length ≤ 1048576) : Ev (fun k => laws_FnExactNearestHole.j0 k l (l.map toHole) false) true :=
  (ev_and (laws_toHoleS_ev l hn) <| ev_one (laws_eqHoleS_ev (l.map toHole) (by simp; omega))).next fun k ⟨h1, h2⟩ => by
    simp [laws_FnExactNearestHole.j0, h1, h2]
theorem FnExactNearestHole : Stat.FnExactNearestHole := by
  intro gx gy gz l i _ _ _ hl _
  refine Ev.rounds ?_
  by_cases hg : (1048576 : Int) < l.length
  · refine Ev.all fun k => ?_
    simp only [laws_FnExactNearestHole.f, laws_szHoleS_eq l 1048576 (by omega) (by omega) hl.1, Option.bind_some]
    rw [if_pos hg, if_pos (by omega)]
  · have hn : l.length ≤ 1048576 := by omega
    refine (ev_and (laws_toHoleS_ev l hn) <| ev_and (j0_ev l hn) <| ev_and (spec_NearestHole_ev gx gy gz i (l.map toHole) (by simp; omega)) <| ev_one (impl_NearestHole_ev gx gy gz i (l.map toHole) (by simp; omega))).ev fun k ⟨h1, h2, h3, h4⟩ => ?_
    simp only [laws_FnExactNearestHole.f, laws_szHoleS_eq l 1048576 (by omega) (by omega) hl.1, laws_toGrid.f, h1, h3, h4, Option.bind_some]
    rw [if_neg hg, if_neg (by omega)]
    simp [h2]
end Go.Proofs.Ytkoacjepochjaaa.PureFnExactNearestHole
namespace Go.Proofs.Ytkoacjepochjaaa.Pure
theorem FnExactNearestHole : Stat.FnExactNearestHole := PureFnExactNearestHole.FnExactNearestHole
end Go.Proofs.Ytkoacjepochjaaa.Pure
