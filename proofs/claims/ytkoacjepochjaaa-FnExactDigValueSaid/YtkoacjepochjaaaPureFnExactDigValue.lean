/- The law FnExactDigValue over numbers and lists: it is true of every input. -/
import Derived.Test.YtkoacjepochjaaaStatFnExactDigValue
import Derived.Test.YtkoacjepochjaaaWMore
set_option linter.unusedVariables false
set_option linter.unusedSimpArgs false
namespace Go.Proofs.Ytkoacjepochjaaa.Kit
open Go.RowKit Go.Proofs.YtkoacjepochjaaaW.PrintWords Go.Proofs.YtkoacjepochjaaaW.PrintMore

/-! ### Rounds -/
theorem Ev.all {α : Type} {g : Nat → Option α} {r : α} (h : ∀ k, g k = some r) : Ev g r := ⟨0, fun k _ => h k⟩
theorem Ev.of1 {α β : Type} {g : Nat → Option α} {f : Nat → Option β} {r : α} {b : β} (h : Ev f b) (k : ∀ k, f k = some b → g k = some r) : Ev g r := by
  obtain ⟨K, h⟩ := h; exact ⟨K, fun n hn => k n (h n hn)⟩
theorem Ev.of2 {α β γ : Type} {g : Nat → Option α} {f : Nat → Option β} {f' : Nat → Option γ} {r : α} {b : β} {c : γ} (h : Ev f b) (h' : Ev f' c) (k : ∀ k, f k = some b → f' k = some c → g k = some r) : Ev g r := by
  obtain ⟨K, h⟩ := h; obtain ⟨K', h'⟩ := h'; exact ⟨K + K', fun n hn => k n (h n (by omega)) (h' n (by omega))⟩
theorem Ev.of3 {α β γ δ : Type} {g : Nat → Option α} {f : Nat → Option β} {f' : Nat → Option γ} {f'' : Nat → Option δ} {r : α} {b : β} {c : γ} {d : δ} (h : Ev f b) (h' : Ev f' c) (h'' : Ev f'' d)
    (k : ∀ k, f k = some b → f' k = some c → f'' k = some d → g k = some r) : Ev g r := by
  obtain ⟨K, h⟩ := h; obtain ⟨K', h'⟩ := h'; obtain ⟨K'', h''⟩ := h''
  exact ⟨K + K' + K'', fun n hn => k n (h n (by omega)) (h' n (by omega)) (h'' n (by omega))⟩
/-- Two at once: a pair of facts for one number of rounds. -/
def Both {α β : Type} (f : Nat → Option α) (g : Nat → Option β) (a : α) (b : β) : Prop := ∃ K, ∀ k, K ≤ k → f k = some a ∧ g k = some b
theorem Ev.next0 {α : Type} {g : Nat → Option α} {r : α} (h : ∀ k, g (k + 1) = some r) : Ev g r :=
  ⟨1, fun n hn => by obtain ⟨m, rfl⟩ : ∃ m, n = m + 1 := ⟨n - 1, by omega⟩; exact h m⟩
theorem Ev.next1 {α β : Type} {g : Nat → Option α} {f : Nat → Option β} {r : α} {b : β} (h : Ev f b) (k : ∀ k, f k = some b → g (k + 1) = some r) : Ev g r := by
  obtain ⟨K, h⟩ := h
  exact ⟨K + 1, fun n hn => by obtain ⟨m, rfl⟩ : ∃ m, n = m + 1 := ⟨n - 1, by omega⟩; exact k m (h m (by omega))⟩
theorem Ev.next2 {α β γ : Type} {g : Nat → Option α} {f : Nat → Option β} {f' : Nat → Option γ} {r : α} {b : β} {c : γ} (h : Ev f b) (h' : Ev f' c) (k : ∀ k, f k = some b → f' k = some c → g (k + 1) = some r) : Ev g r := by
  obtain ⟨K, h⟩ := h; obtain ⟨K', h'⟩ := h'
  exact ⟨K + K' + 1, fun n hn => by obtain ⟨m, rfl⟩ : ∃ m, n = m + 1 := ⟨n - 1, by omega⟩; exact k m (h m (by omega)) (h' m (by omega))⟩
theorem Ev.next3 {α β γ δ : Type} {g : Nat → Option α} {f : Nat → Option β} {f' : Nat → Option γ} {f'' : Nat → Option δ} {r : α} {b : β} {c : γ} {d : δ} (h : Ev f b) (h' : Ev f' c) (h'' : Ev f'' d)
    (k : ∀ k, f k = some b → f' k = some c → f'' k = some d → g (k + 1) = some r) : Ev g r := by
  obtain ⟨K, h⟩ := h; obtain ⟨K', h'⟩ := h'; obtain ⟨K'', h''⟩ := h''
  exact ⟨K + K' + K'' + 1, fun n hn => by obtain ⟨m, rfl⟩ : ∃ m, n = m + 1 := ⟨n - 1, by omega⟩; exact k m (h m (by omega)) (h' m (by omega)) (h'' m (by omega))⟩
theorem Ev.uniq {α : Type} {g : Nat → Option α} {r s : α} (h : Ev g r) (k : Ev g s) : r = s := by
  obtain ⟨K, h⟩ := h; obtain ⟨K', k⟩ := k
  have a := h (K + K') (by omega); have b := k (K + K') (by omega)
  rw [a] at b; exact Option.some.inj b

/-- From some number of rounds on. -/
def Evt (p : Nat → Prop) : Prop := ∃ K, ∀ k, K ≤ k → p k
theorem ev_one {α : Type} {f : Nat → Option α} {a : α} (h : Ev f a) : Evt (fun k => f k = some a) := h
theorem ev_and {α : Type} {f : Nat → Option α} {a : α} {p : Nat → Prop} (h : Ev f a) (h' : Evt p) : Evt (fun k => f k = some a ∧ p k) := by
  obtain ⟨K, h⟩ := h; obtain ⟨K', h'⟩ := h'; exact ⟨K + K', fun n hn => ⟨h n (by omega), h' n (by omega)⟩⟩
theorem Evt.ev {α : Type} {g : Nat → Option α} {r : α} {p : Nat → Prop} (h : Evt p) (k : ∀ k, p k → g k = some r) : Ev g r := by
  obtain ⟨K, h⟩ := h; exact ⟨K, fun n hn => k n (h n hn)⟩
theorem Evt.next {α : Type} {g : Nat → Option α} {r : α} {p : Nat → Prop} (h : Evt p) (k : ∀ k, p k → g (k + 1) = some r) : Ev g r := by
  obtain ⟨K, h⟩ := h
  exact ⟨K + 1, fun n hn => by obtain ⟨m, rfl⟩ : ∃ m, n = m + 1 := ⟨n - 1, by omega⟩; exact k m (h m (by omega))⟩

/-! ### Whole numbers -/
theorem wrap_id {x : Int} (h0 : -9223372036854775808 ≤ x) (h1 : x ≤ 9223372036854775807) : wrap64 x = x := by unfold wrap64; omega
theorem wrap_succ {i n : Nat} (h : i < n) (hn : n ≤ 9223372036854775807) : wrap64 ((i : Int) + 1) = ((i + 1 : Nat) : Int) := by unfold wrap64; omega
theorem toNat_cast (i : Nat) : ((i : Int)).toNat = i := by omega

theorem mx_eq (a b : Int) : mx a b = max a b := by unfold mx; split <;> omega
theorem mn_eq (a b : Int) : mn a b = min a b := by unfold mn; split <;> omega

/-! ### Lists from an index on -/
theorem drop_cons {α : Type} {xs ys : List α} {y : α} {i : Nat} (h : xs.drop i = y :: ys) : i < xs.length ∧ xs[i]? = some y ∧ xs.drop (i + 1) = ys := by
  have hlt : i < xs.length := by
    by_cases hlt : i < xs.length
    · exact hlt
    · rw [List.drop_of_length_le (by omega)] at h; cases h
  rw [List.drop_eq_getElem_cons hlt] at h
  injection h with h1 h2
  exact ⟨hlt, by rw [List.getElem?_eq_getElem hlt, h1], h2⟩
theorem drop_nil {α : Type} {xs : List α} {i : Nat} (h : xs.drop i = []) : xs.length ≤ i := by simpa using h
theorem getD_drop {α : Type} {xs ys : List α} {y d : α} {i : Nat} (h : xs.drop i = y :: ys) : xs.getD ((i : Int)).toNat d = y := by
  rw [toNat_cast, List.getD_eq_getElem?_getD, (drop_cons h).2.1]; rfl
theorem rd_drop {xs ys : List Int} {y : Int} {i : Nat} (h : xs.drop i = y :: ys) : rd xs (i : Int) = y := getD_drop h
theorem rdOf_drop {α : Type} {xs ys : List α} {y d : α} {i : Nat} (h : xs.drop i = y :: ys) : rdOf d xs (i : Int) = y := getD_drop h
theorem getD_get {α : Type} {xs : List α} {y d : α} {i : Nat} (h : xs[i]? = some y) : xs.getD ((i : Int)).toNat d = y := by
  rw [toNat_cast, List.getD_eq_getElem?_getD, h]; rfl
theorem rd_get {xs : List Int} {y : Int} {i : Nat} (h : xs[i]? = some y) : rd xs (i : Int) = y := getD_get h
theorem rdOf_get {α : Type} {xs : List α} {y d : α} {i : Nat} (h : xs[i]? = some y) : rdOf d xs (i : Int) = y := getD_get h
theorem drop_of_get {α : Type} {xs : List α} {y : α} {i : Nat} (h : xs[i]? = some y) : xs.drop i = y :: xs.drop (i + 1) := by
  obtain ⟨hl, rfl⟩ := List.getElem?_eq_some_iff.1 h
  exact List.drop_eq_getElem_cons hl

/-- What is left of a, n taken off; -1 if it isn't enough. -/
def left (a : Int) (n : Nat) : Int := if a < (n : Int) then -1 else a - (n : Int)
theorem left_lt {a : Int} {n : Nat} (h : a < (n : Int)) : left a n = -1 := if_pos h
theorem left_ge {a : Int} {n : Nat} (h : (n : Int) ≤ a) : left a n = a - (n : Int) := if_neg (by omega)
/-- How many values rows hold, the rows counted too. -/
def tot : List (List Int) → Nat
  | [] => 0
  | y :: ys => 1 + y.length + tot ys
def sumLen : List (List Int) → Nat
  | [] => 0
  | y :: ys => y.length + sumLen ys
theorem tot_eq : ∀ ls : List (List Int), tot ls = ls.length + sumLen ls
  | [] => rfl
  | y :: ys => by simp only [tot, sumLen, List.length_cons, tot_eq ys]; omega
theorem sumLen_mem : ∀ {ls : List (List Int)} {y : List Int}, y ∈ ls → y.length ≤ sumLen ls
  | z :: zs, y, h => by
    rcases List.mem_cons.1 h with rfl | h
    · simp only [sumLen]; omega
    · have := sumLen_mem h; simp only [sumLen]; omega

/-! ### A list that is copied, element for element -/
theorem copy_step {α : Type} {m x : List α} {y : α} {i : Nat} (hm : m[i]? = some y) (hl : x.length = m.length) (ht : x.take i = m.take i) : (x.set i y).length = m.length ∧ (x.set i y).take (i + 1) = m.take (i + 1) := by
  obtain ⟨hi, rfl⟩ := List.getElem?_eq_some_iff.1 hm
  refine ⟨by simpa using hl, ?_⟩
  apply List.ext_getElem?
  intro j
  have hj : (x.take i)[j]? = (m.take i)[j]? := by rw [ht]
  rw [List.getElem?_take, List.getElem?_take] at *
  by_cases h1 : j < i + 1
  · rw [if_pos h1, if_pos h1]
    by_cases h2 : j = i
    · subst h2
      rw [List.getElem?_set_self (by omega), List.getElem?_eq_getElem hi]
    · rw [List.getElem?_set_ne (by omega)]
      rw [if_pos (by omega), if_pos (by omega)] at hj
      exact hj
  · rw [if_neg h1, if_neg h1]
theorem copy_end {α : Type} {m x : List α} {i : Nat} (hl : x.length = m.length) (ht : x.take i = m.take i) (hi : m.length ≤ i) : x = m := by
  rw [List.take_of_length_le (by omega), List.take_of_length_le hi] at ht; exact ht

/-! ### Strictly increasing lists of 0..n-1 -/
def rise (n : Int) : Int → List Int → Bool
  | _, [] => true
  | p, y :: ys => decide (0 ≤ y ∧ y < n ∧ p < y) && rise n y ys
theorem rise_mem {n : Int} : ∀ {p : Int} {ys : List Int}, rise n p ys = true → ∀ y ∈ ys, 0 ≤ y ∧ y < n ∧ p < y
  | p, [], _, y, hy => by cases hy
  | p, z :: zs, h, y, hy => by
    simp only [rise, Bool.and_eq_true, decide_eq_true_eq] at h
    rcases List.mem_cons.1 hy with rfl | hy
    · exact h.1
    · have := rise_mem h.2 y hy; omega

/-! ### Numbers marked and held -/
def markI : Nat → Int → List Int
  | 0, _ => []
  | n + 1, k => k :: markI n (k + 1)
theorem markI_length : ∀ (n : Nat) (k : Int), (markI n k).length = n
  | 0, _ => rfl
  | n + 1, k => by simp [markI, markI_length n (k + 1)]
theorem markI_get : ∀ (n : Nat) (k : Int) (j : Nat), j < n → (markI n k)[j]? = some (k + j)
  | 0, _, _, h => by omega
  | n + 1, k, 0, _ => by simp [markI]
  | n + 1, k, j + 1, h => by simp only [markI, List.getElem?_cons_succ]; rw [markI_get n (k + 1) j (by omega)]; congr 1; push_cast; omega
def markB : Nat → Int → List Bool
  | 0, _ => []
  | n + 1, k => (Int.tmod k 3 == 0) :: markB n (k + 1)
theorem markB_length : ∀ (n : Nat) (k : Int), (markB n k).length = n
  | 0, _ => rfl
  | n + 1, k => by simp [markB, markB_length n (k + 1)]
theorem markB_get : ∀ (n : Nat) (k : Int) (j : Nat), j < n → (markB n k)[j]? = some (Int.tmod (k + j) 3 == 0)
  | 0, _, _, h => by omega
  | n + 1, k, 0, _ => by simp [markB]
  | n + 1, k, j + 1, h => by simp only [markB, List.getElem?_cons_succ]; rw [markB_get n (k + 1) j (by omega)]; congr 2; congr 1; push_cast; omega
end Go.Proofs.Ytkoacjepochjaaa.Kit
namespace Go.Proofs.Ytkoacjepochjaaa.Model
open Go.RowKit Go.Proofs.YtkoacjepochjaaaW.PrintWords Go.Proofs.Ytkoacjepochjaaa.Kit

/-- Numbers within bounds, all of them. -/
def allIn (lo hi : Int) : List Int → Bool
  | [] => true
  | y :: ys => decide (lo ≤ y ∧ y ≤ hi) && allIn lo hi ys
theorem allIn_mem {lo hi : Int} : ∀ {ys : List Int}, allIn lo hi ys = true → ∀ y ∈ ys, lo ≤ y ∧ y ≤ hi
  | [], _, y, hy => by cases hy
  | z :: zs, h, y, hy => by
    simp only [allIn, Bool.and_eq_true, decide_eq_true_eq] at h
    rcases List.mem_cons.1 hy with rfl | hy
    · exact h.1
    · exact allIn_mem h.2 y hy
theorem allIn_get {lo hi : Int} {ys : List Int} (h : allIn lo hi ys = true) {i : Nat} {y : Int} (hy : ys[i]? = some y) : lo ≤ y ∧ y ≤ hi := allIn_mem h y (List.mem_of_getElem? hy)
theorem allIn_of {lo hi : Int} : ∀ {ys : List Int}, (∀ y ∈ ys, lo ≤ y ∧ y ≤ hi) → allIn lo hi ys = true
  | [], _ => rfl
  | z :: zs, h => by simp only [allIn, Bool.and_eq_true, decide_eq_true_eq]; exact ⟨h z (by simp), allIn_of fun y hy => h y (by simp [hy])⟩

/-- The greatest number of 'false' behind each other; m: so far; n: those just before. -/
def down : List Bool → Int → Int → Int
  | [], m, _ => m
  | b :: bs, m, n => if b = true then down bs (max m 0) 0 else down bs (max m (n + 1)) (n + 1)

def mixStep (a x : Int) : Int := Int.tmod (wrap64 ((Int.tmod (wrap64 ((wrap64 ((wrap64 (33 * a)) + x)) + 11)) 1000003) * (wrap64 ((wrap64 (Int.tdiv (Int.tmod (wrap64 ((wrap64 ((wrap64 (33 * a)) + x)) + 11)) 1000003) 16)) + 7)))) 1000003
def mix (l : List Int) : Int := (l ++ [5, 2]).foldl mixStep (wrap64 (6007 + (l.length : Int)))
def keyOk (l : List Int) : Bool := decide (l.length ≤ 8) && allIn 0 1000000000 l

def gridOk (x y z : Int) : Bool := decide (1 ≤ x ∧ x ≤ 8 ∧ 1 ≤ y ∧ y ≤ 6 ∧ 1 ≤ z ∧ z ≤ 5 ∧ x * y * z ≤ 120)
theorem grid_prod {x y z : Int} (hx : 1 ≤ x ∧ x ≤ 8) (hy : 1 ≤ y ∧ y ≤ 6) (hz : 1 ≤ z ∧ z ≤ 5) : 1 ≤ x * y ∧ x * y ≤ 48 ∧ 1 ≤ x * y * z ∧ x * y * z ≤ 240 := by
  rcases (by omega : x = 1 ∨ x = 2 ∨ x = 3 ∨ x = 4 ∨ x = 5 ∨ x = 6 ∨ x = 7 ∨ x = 8) with rfl | rfl | rfl | rfl | rfl | rfl | rfl | rfl <;>
    rcases (by omega : z = 1 ∨ z = 2 ∨ z = 3 ∨ z = 4 ∨ z = 5) with rfl | rfl | rfl | rfl | rfl <;> omega
theorem grid_ok {x y z : Int} (h : gridOk x y z = true) : (1 ≤ x ∧ x ≤ 8) ∧ (1 ≤ y ∧ y ≤ 6) ∧ (1 ≤ z ∧ z ≤ 5) ∧ 1 ≤ x * y ∧ x * y ≤ 48 ∧ 1 ≤ x * y * z ∧ x * y * z ≤ 120 := by
  simp only [gridOk, decide_eq_true_eq] at h
  have := grid_prod (x := x) (y := y) (z := z) (by omega) (by omega) (by omega)
  omega
theorem grid_wrap {x y z : Int} (hx : 1 ≤ x ∧ x ≤ 8) (hy : 1 ≤ y ∧ y ≤ 6) (hz : 1 ≤ z ∧ z ≤ 5) : wrap64 (wrap64 (x * y) * z) = x * y * z := by
  have := grid_prod hx hy hz
  rw [wrap_id (x := x * y) (by omega) (by omega), wrap_id (by omega) (by omega)]
def holeOk (gx gy gz x y z t g : Int) : Bool := decide (0 ≤ x ∧ x < 10 * gx ∧ 0 ≤ y ∧ y < 10 * gy ∧ 0 ≤ z ∧ z < 10 * gz ∧ 1 ≤ t ∧ t ≤ 1000 ∧ 0 ≤ g ∧ g ≤ 1000)
def benchOk (x y : Int) (l : List Int) : Bool := decide (1 ≤ x ∧ x ≤ 8 ∧ 1 ≤ y ∧ y ≤ 6 ∧ (l.length : Int) = x * y) && allIn (-1000000) 1000000 l
theorem bench_prod {x y : Int} (hx : 1 ≤ x ∧ x ≤ 8) (hy : 1 ≤ y ∧ y ≤ 6) : 1 ≤ x * y ∧ x * y ≤ 48 := by
  rcases (by omega : x = 1 ∨ x = 2 ∨ x = 3 ∨ x = 4 ∨ x = 5 ∨ x = 6 ∨ x = 7 ∨ x = 8) with rfl | rfl | rfl | rfl | rfl | rfl | rfl | rfl <;> omega
theorem bench_len {x y : Int} {l : List Int} (h : benchOk x y l = true) : (1 ≤ x ∧ x ≤ 8) ∧ (1 ≤ y ∧ y ≤ 6) ∧ (l.length : Int) = x * y ∧ 1 ≤ l.length ∧ l.length ≤ 48 := by
  simp only [benchOk, Bool.and_eq_true, decide_eq_true_eq] at h
  have := bench_prod (x := x) (y := y) (by omega) (by omega)
  omega
theorem bench_vals {x y : Int} {l : List Int} (h : benchOk x y l = true) : allIn (-1000000) 1000000 l = true := by
  simp only [benchOk, Bool.and_eq_true] at h; exact h.2
def rowHolds (l : List Int) : Bool := decide (rd l 0 = wrap64 (wrap64 (rd l 2 + rd l 4) + rd l 6)) && (rd l 1 == wrap64 (wrap64 (rd l 3 + rd l 5) + rd l 7))
def rowOk (l : List Int) : Bool := decide (l.length = 12) && allIn 0 100000000000 l
def rowsOk : List (List Int) → Bool
  | [] => true
  | y :: ys => rowOk y && rowsOk ys
theorem rowsOk_mem : ∀ {ls : List (List Int)}, rowsOk ls = true → ∀ y ∈ ls, rowOk y = true
  | z :: zs, h, y, hy => by
    simp only [rowsOk, Bool.and_eq_true] at h
    rcases List.mem_cons.1 hy with rfl | hy
    · exact h.1
    · exact rowsOk_mem h.2 y hy
theorem row_len {y : List Int} (h : rowOk y = true) : y.length = 12 := by simp [rowOk] at h; exact h.1
theorem row_rd {y : List Int} (h : rowOk y = true) (i : Nat) (hi : i < 12) : 0 ≤ rd y (i : Int) ∧ rd y (i : Int) ≤ 100000000000 := by
  have hl := row_len h
  simp only [rowOk, Bool.and_eq_true] at h
  have hg : y[i]? = some (y[i]'(by omega)) := List.getElem?_eq_getElem (by omega)
  rw [rd_get hg]
  exact allIn_get h.2 hg
def piles : List (List Int) → Int → Int
  | [], m => m
  | y :: ys, m => piles ys (max m (rd y 10))
/-- The first row that doesn't balance, from index i on. -/
def imbal : List (List Int) → Nat → Int → Int → Nat
  | [], i, _, _ => i
  | y :: ys, i, t, m => if rowHolds y = true ∧ rd y 10 = t + (rd y 4 - rd y 8) ∧ rd y 11 = m + (rd y 5 - rd y 9) then imbal ys (i + 1) (rd y 10) (rd y 11) else i
def machOk (a b : Int) : Bool := decide (0 ≤ a ∧ a ≤ 100 ∧ 0 ≤ b ∧ b ≤ 100)
/-- The states of a machine: d shifts, from shift s on; 'now': is it ready? -/
def states (f r key : Int) : Nat → Int → Bool → List Bool
  | 0, _, _ => []
  | d + 1, s, now => now :: states f r key d (s + 1) (if Int.tmod (mix [key, s, 3, 100]) 100 < (if now = true then f else r) then !now else now)
theorem states_length (f r key : Int) : ∀ (d : Nat) (s : Int) (now : Bool), (states f r key d s now).length = d
  | 0, _, _ => rfl
  | d + 1, s, now => by simp [states, states_length]
/-- Tonnes and losses of a bench. -/
def lossWaste : List Int → List Bool → Int → Int → Int × Int
  | v :: vs, b :: bs, l, w => if b = true then lossWaste vs bs l (w + max 0 (-v)) else lossWaste vs bs (l + max 0 v) w
  | _, _, l, w => (l, w)
def dugSum : List Int → List Bool → Int → Int
  | v :: vs, b :: bs, s => dugSum vs bs (if b = true then s + v else s)
  | _, _, s => s
def modelOk (x y z : Int) (t g r : List Int) : Bool := gridOk x y z && decide ((t.length : Int) = x * y * z ∧ (g.length : Int) = x * y * z ∧ (r.length : Int) = x * y * z) && (allIn 0 10000 t && (allIn 0 1000 g && allIn 0 4 r))
end Go.Proofs.Ytkoacjepochjaaa.Model
namespace Go.Proofs.Ytkoacjepochjaaa.PureFnExactDigValue
open Go.RowKit Go.Proofs.Ytkoacjepochjaaa.PFnExactDigValue Go.Proofs.YtkoacjepochjaaaW.PrintWords Go.Proofs.YtkoacjepochjaaaW.PrintLast Go.Proofs.YtkoacjepochjaaaW.PrintMore Go.Proofs.Ytkoacjepochjaaa.Kit Go.Proofs.Ytkoacjepochjaaa.Model
theorem laws_eqBoolS_l0 (l : List Bool) (hn : l.length ≤ 9223372036854775807) : ∀ (ys : List Bool) (i : Nat), l.drop i = ys → Ev (fun k => laws_eqBoolS.l0 k l l i) true
  | [], i, h => Ev.next0 fun k => by
      have h0 := drop_nil h
      simp only [laws_eqBoolS.l0]
      rw [if_neg (by omega)]
  | y :: ys, i, h => by
      obtain ⟨h1, h2, h3⟩ := drop_cons h
      refine Ev.next1 (laws_eqBoolS_l0 l hn ys (i + 1) h3) fun k hk => ?_
      have e := rdOf_drop (d := false) h
      simp only [laws_eqBoolS.l0, e]
      rw [if_pos (by omega), if_pos (by omega), if_pos (by omega), if_neg (by simp), wrap_succ h1 hn]
      exact hk
theorem laws_eqBoolS_ev (l : List Bool) (hn : l.length ≤ 9223372036854775807) : Ev (fun k => laws_eqBoolS.f k l l) true :=
  Ev.of1 (laws_eqBoolS_l0 l hn l 0 rfl) fun k hk => by
    simp only [laws_eqBoolS.f]
    rw [if_pos (by simp)]
    exact hk
theorem laws_szIntS_eq (l : List Int) (a : Int) (h0 : 0 ≤ a) (ha : a ≤ 1048576) (hn : l.length ≤ 9223372036854775807) : laws_szIntS.f l a = some (if a < l.length then -1 else a - l.length) := by
  simp only [laws_szIntS.f]
  rw [wrap_id (by omega) (by omega)]
  split
  · rw [if_pos (by omega)]
  · rw [if_neg (by omega)]
theorem laws_szBench_eq (x y : Int) (l : List Int) (a : Int) (h0 : 0 ≤ a) (ha : a ≤ 1048576) (hn : l.length ≤ 9223372036854775807) : laws_szBench.f x y l a = some (if a < l.length then -1 else a - l.length) := by
  simp only [laws_szBench.f, laws_szIntS_eq l a h0 ha hn, Option.bind_some]
  by_cases h : a < l.length
  · rw [if_pos h, if_pos (by omega)]
  · rw [if_neg h, if_neg (by omega)]
theorem laws_toIntS_l0 (l : List Int) (hn : l.length ≤ 9223372036854775807) : ∀ (ys : List Int) (i : Nat) (x : List Int), l.drop i = ys → x.length = l.length → x.take i = l.take i → Ev (fun k => laws_toIntS.l0 k l x i) l
  | [], i, x, h, hl, ht => Ev.next0 fun k => by
      have h0 := drop_nil h
      have h1 : l.length = l.length := by simp
      simp only [laws_toIntS.l0]
      rw [if_neg (by omega), copy_end hl ht (by omega)]
  | y :: ys, i, x, h, hl, ht => by
      obtain ⟨h1, h2, h3⟩ := drop_cons h
      have hm : l.length = l.length := by simp
      have hg : l[i]? = some y := by simp [h2]
      obtain ⟨c1, c2⟩ := copy_step hg hl ht
      refine Ev.next1 (laws_toIntS_l0 l hn ys (i + 1) (x.set i y) h3 c1 c2) fun k hk => ?_
      have e := rd_drop h
      simp only [laws_toIntS.l0, e, Option.bind_some]
      rw [if_pos (by omega), if_pos (by omega), if_pos (by omega), wrap_succ h1 hn, toNat_cast]
      exact hk
theorem laws_toIntS_ev (l : List Int) (hn : l.length ≤ 35184372088832) : Ev (fun k => laws_toIntS.f k l) l :=
  Ev.of1 (laws_toIntS_l0 l (by omega) l 0 (List.replicate ((l.length : Int)).toNat 0) rfl (by simp) rfl) fun k hk => by
    simp only [laws_toIntS.f]
    rw [if_pos (by omega), if_pos (by omega)]
    exact hk
theorem laws_toBench_ev (x y : Int) (l : List Int) (hn : l.length ≤ 1048576) : Ev (fun k => laws_toBench.f k x y l) (x, y, l) :=
  Ev.of1 (laws_toIntS_ev l (by omega)) fun k hk => by simp only [laws_toBench.f, hk, Option.bind_some]
theorem laws_toBoolS_l0 (l : List Bool) (hn : l.length ≤ 9223372036854775807) : ∀ (ys : List Bool) (i : Nat) (x : List Bool), l.drop i = ys → x.length = l.length → x.take i = l.take i → Ev (fun k => laws_toBoolS.l0 k l x i) l
  | [], i, x, h, hl, ht => Ev.next0 fun k => by
      have h0 := drop_nil h
      have h1 : l.length = l.length := by simp
      simp only [laws_toBoolS.l0]
      rw [if_neg (by omega), copy_end hl ht (by omega)]
  | y :: ys, i, x, h, hl, ht => by
      obtain ⟨h1, h2, h3⟩ := drop_cons h
      have hm : l.length = l.length := by simp
      have hg : l[i]? = some y := by simp [h2]
      obtain ⟨c1, c2⟩ := copy_step hg hl ht
      refine Ev.next1 (laws_toBoolS_l0 l hn ys (i + 1) (x.set i y) h3 c1 c2) fun k hk => ?_
      have e := rdOf_drop (d := false) h
      simp only [laws_toBoolS.l0, e, Option.bind_some]
      rw [if_pos (by omega), if_pos (by omega), if_pos (by omega), wrap_succ h1 hn, toNat_cast]
      exact hk
theorem laws_toBoolS_ev (l : List Bool) (hn : l.length ≤ 281474976710656) : Ev (fun k => laws_toBoolS.f k l) l :=
  Ev.of1 (laws_toBoolS_l0 l (by omega) l 0 (List.replicate ((l.length : Int)).toNat false) rfl (by simp) rfl) fun k hk => by
    simp only [laws_toBoolS.f]
    rw [if_pos (by omega), if_pos (by omega)]
    exact hk
theorem laws_eqIntS_l0 (l : List Int) (hn : l.length ≤ 9223372036854775807) : ∀ (ys : List Int) (i : Nat), l.drop i = ys → Ev (fun k => laws_eqIntS.l0 k l l i) true
  | [], i, h => Ev.next0 fun k => by
      have h0 := drop_nil h
      simp only [laws_eqIntS.l0]
      rw [if_neg (by omega)]
  | y :: ys, i, h => by
      obtain ⟨h1, h2, h3⟩ := drop_cons h
      refine Ev.next1 (laws_eqIntS_l0 l hn ys (i + 1) h3) fun k hk => ?_
      have e := rd_drop h
      simp only [laws_eqIntS.l0, e]
      rw [if_pos (by omega), if_pos (by omega), if_pos (by omega), if_pos (by simp), wrap_succ h1 hn]
      exact hk
theorem laws_eqIntS_ev (l : List Int) (hn : l.length ≤ 9223372036854775807) : Ev (fun k => laws_eqIntS.f k l l) true :=
  Ev.of1 (laws_eqIntS_l0 l hn l 0 rfl) fun k hk => by
    simp only [laws_eqIntS.f]
    rw [if_pos (by simp)]
    exact hk
theorem laws_eqBench_ev (x y : Int) (l : List Int) (hn : l.length ≤ 1048576) : Ev (fun k => laws_eqBench.f k x y l x y l) true :=
  Ev.of1 (laws_eqIntS_ev l (by omega)) fun k hk => by simp [laws_eqBench.f, hk]
theorem spec_l1In_eq (a lo hi : Int) : spec_l1In.f a lo hi = some (decide (lo ≤ a ∧ a ≤ hi)) := by
  unfold spec_l1In.f
  split
  · congr 1; simp; omega
  · congr 1; simp; omega
theorem spec_l1All_l0 (lo hi : Int) (l : List Int) (hn : l.length ≤ 9223372036854775807) : ∀ (ys : List Int) (i : Nat), l.drop i = ys → Ev (fun k => spec_l1All.l0 k lo hi l (l.length : Int) i) (allIn lo hi ys)
  | [], i, h => Ev.next0 fun k => by
      have h0 := drop_nil h
      simp only [spec_l1All.l0, allIn]
      rw [if_neg (by omega)]
  | y :: ys, i, h => by
      obtain ⟨h1, h2, h3⟩ := drop_cons h
      refine Ev.next1 (spec_l1All_l0 lo hi l hn ys (i + 1) h3) fun k hk => ?_
      have e := rd_drop h
      simp only [spec_l1All.l0, e, spec_l1In_eq, Option.bind_some]
      rw [if_pos (by omega), if_pos (by omega), if_pos (by omega), wrap_succ h1 hn]
      by_cases hy : lo ≤ y ∧ y ≤ hi
      · rw [if_pos (decide_eq_true hy), hk]; simp [allIn, hy]
      · rw [if_neg (by simp; omega)]; simp [allIn, hy]
theorem spec_l1All_ev (l : List Int) (lo hi : Int) (hn : l.length ≤ 9223372036854775807) : Ev (fun k => spec_l1All.f k l lo hi) (allIn lo hi l) :=
  Ev.of1 (spec_l1All_l0 lo hi l hn l 0 rfl) fun k hk => by simp only [spec_l1All.f]; exact hk
theorem spec_dgGood_ev (x y : Int) (l : List Int) (hn : l.length ≤ 9223372036854775807) : Ev (fun k => spec_dgGood.f k x y l) (benchOk x y l) := by
  refine Ev.of1 (spec_l1All_ev l (-1000000) 1000000 hn) fun k hk => ?_
  simp only [spec_dgGood.f, spec_l1In_eq, hk, Option.bind_some, benchOk, decide_eq_true_eq]
  by_cases hx : 1 ≤ x ∧ x ≤ 8
  · rw [if_pos hx]
    by_cases hy : 1 ≤ y ∧ y ≤ 6
    · have hp := bench_prod hx hy
      rw [if_pos hy, wrap_id (by omega) (by omega)]
      by_cases hl : (l.length : Int) = x * y
      · rw [if_pos hl]; congr 1; simp [hx, hy, hl]
      · rw [if_neg hl]; congr 1; symm; simp [hl]
    · rw [if_neg hy]; congr 1; symm; simp; omega
  · rw [if_neg hx]; congr 1; symm; simp; omega
theorem spec_dgBoth_ev (x y : Int) (l : List Int) (d : List Bool) (hn : l.length ≤ 9223372036854775807) : Ev (fun k => spec_dgBoth.f k x y l d) (benchOk x y l && decide (d.length = l.length)) :=
  Ev.of1 (spec_dgGood_ev x y l hn) fun k hk => by
    simp only [spec_dgBoth.f, hk, Option.bind_some]
    by_cases h : benchOk x y l = true
    · rw [if_pos h, h]; congr 1; simp only [Bool.true_and]; rw [Bool.eq_iff_iff]; simp; omega
    · rw [if_neg h]; simp [h]
def dugCount : List Bool → Int → Int
  | [], n => n
  | b :: bs, n => dugCount bs (if b = true then n + 1 else n)
theorem spec_dgSum_l0 (l : List Int) (d : List Bool) (hn : l.length ≤ 1000) (hd : d.length = l.length) (hv : allIn (-1000000) 1000000 l = true) : ∀ (bs : List Bool) (ys : List Int) (i : Nat) (a n : Int), d.drop i = bs → l.drop i = ys → -(1000000 * i) ≤ a ∧ a ≤ 1000000 * i → 0 ≤ n ∧ n ≤ i → Ev (fun k => spec_dgSum.l0 k l a n d (d.length : Int) i) (dugSum ys bs a, dugCount bs n)
  | [], ys, i, a, n, h, hb, ha, hc => Ev.next0 fun k => by
      have h0 := drop_nil h
      have h1 : ys = [] := by rw [← hb]; exact List.drop_of_length_le (by omega)
      subst h1
      simp only [spec_dgSum.l0, dugSum, dugCount]
      rw [if_neg (by omega)]
  | b :: bs, [], i, a, n, h, hb, ha, hc => by
      have h1 := (drop_cons h).1
      have h2 := drop_nil hb
      omega
  | b :: bs, y :: ys, i, a, n, h, hb, ha, hc => by
      obtain ⟨h1, h2, h3⟩ := drop_cons h
      obtain ⟨g1, g2, g3⟩ := drop_cons hb
      have hy := allIn_get hv g2
      have e := rd_drop hb
      have e2 := rdOf_drop (d := false) h
      cases b with
      | true =>
        refine Ev.next1 (spec_dgSum_l0 l d hn hd hv bs ys (i + 1) (a + y) (n + 1) h3 g3 (by push_cast; omega) (by push_cast; omega)) fun k hk => ?_
        simp only [spec_dgSum.l0, e, e2, dugSum, dugCount]
        rw [if_pos (by omega), if_pos (by omega), if_pos (by omega), if_pos (by simp), if_pos (by omega), wrap_succ h1 (by omega), wrap_id (x := a + y) (by omega) (by omega), wrap_id (by omega) (by omega), if_pos (by simp), if_pos (by simp)]
        exact hk
      | false =>
        refine Ev.next1 (spec_dgSum_l0 l d hn hd hv bs ys (i + 1) a n h3 g3 (by push_cast; omega) (by push_cast; omega)) fun k hk => ?_
        simp only [spec_dgSum.l0, e, e2, dugSum, dugCount]
        rw [if_pos (by omega), if_pos (by omega), if_pos (by omega), if_neg (by simp), wrap_succ h1 (by omega), if_neg (by simp), if_neg (by simp)]
        exact hk
theorem spec_dgSum_ev (l : List Int) (d : List Bool) (hn : l.length ≤ 1000) (hd : d.length = l.length) (hv : allIn (-1000000) 1000000 l = true) : Ev (fun k => spec_dgSum.f k l d) (dugSum l d 0, dugCount d 0) :=
  Ev.of1 (spec_dgSum_l0 l d hn hd hv d l 0 0 0 rfl rfl (by omega) (by omega)) fun k hk => by simp only [spec_dgSum.f]; exact hk
theorem spec_DigValue_ev (x y : Int) (l : List Int) (d : List Bool) (hn : l.length ≤ 9223372036854775807) : Ev (fun k => spec_DigValue.f k x y l d) (if benchOk x y l = true ∧ d.length = l.length then (dugSum l d 0, true) else (0, false)) := by
  by_cases h : benchOk x y l = true ∧ d.length = l.length
  · have hb := bench_len h.1
    refine (ev_and (spec_dgBoth_ev x y l d hn) <| ev_one (spec_dgSum_ev l d (by omega) h.2 (bench_vals h.1))).ev fun k ⟨h1, h2⟩ => ?_
    simp only [spec_DigValue.f, h1, h2, Option.bind_some]
    rw [if_pos (by simpa using h), if_pos h]
  · refine (ev_one (spec_dgBoth_ev x y l d hn)).ev fun k h1 => ?_
    simp only [spec_DigValue.f, h1, Option.bind_some]
    rw [if_neg (by simpa using h), if_neg h]
theorem impl_goodValues_l0 (l : List Int) (hn : l.length ≤ 9223372036854775807) : ∀ (ys : List Int) (i : Nat), l.drop i = ys → Ev (fun k => impl_goodValues.l0 k l (l.length : Int) i) (allIn (-1000000) 1000000 ys)
  | [], i, h => Ev.next0 fun k => by
      have h0 := drop_nil h
      simp only [impl_goodValues.l0, allIn]
      rw [if_neg (by omega)]
  | y :: ys, i, h => by
      obtain ⟨h1, h2, h3⟩ := drop_cons h
      refine Ev.next1 (impl_goodValues_l0 l hn ys (i + 1) h3) fun k hk => ?_
      have e := rd_drop h
      simp only [impl_goodValues.l0, e]
      rw [if_pos (by omega), if_pos (by omega), if_pos (by omega), wrap_succ h1 hn]
      by_cases hy : -1000000 ≤ y
      · rw [if_neg (by omega)]
        by_cases hz : y ≤ 1000000
        · rw [if_neg (by omega), hk]; simp [allIn, hy, hz]
        · rw [if_pos (by omega)]; simp [allIn, hz]
      · rw [if_pos (by omega)]; simp [allIn, hy]
theorem impl_goodValues_ev (l : List Int) (hn : l.length ≤ 9223372036854775807) : Ev (fun k => impl_goodValues.f k l) (decide (1 ≤ l.length ∧ l.length ≤ 120) && allIn (-1000000) 1000000 l) := by
  by_cases h : 1 ≤ l.length ∧ l.length ≤ 120
  · have h1 : Ev (fun k => impl_goodValues.j0 k l false) (allIn (-1000000) 1000000 l) := Ev.next1 (impl_goodValues_l0 l hn l 0 rfl) fun k hk => by
      simp only [impl_goodValues.j0]; rw [if_neg (by simp)]; exact hk
    refine Ev.of1 h1 fun k hk => ?_
    have e : decide ((l.length : Int) > 120) = false := by simp; omega
    simp only [impl_goodValues.f]
    rw [if_neg (by omega), e, hk]; simp [h]
  · have h1 : Ev (fun k => impl_goodValues.j0 k l true) false := Ev.next0 fun k => by simp [impl_goodValues.j0]
    refine Ev.of1 h1 fun k hk => ?_
    simp only [impl_goodValues.f]
    by_cases h2 : l.length < 1
    · rw [if_pos (by omega), hk]; simp; omega
    · have e : decide ((l.length : Int) > 120) = true := by simp; omega
      rw [if_neg (by omega), e, hk]; simp; omega
theorem impl_IsBench_ev (x y : Int) (l : List Int) (hn : l.length ≤ 9223372036854775807) : Ev (fun k => impl_IsBench.f k x y l) (benchOk x y l) := by
  refine Ev.of1 (impl_goodValues_ev l hn) fun k hk => ?_
  simp only [impl_IsBench.f, hk, Option.bind_some, benchOk]
  by_cases hx : 1 ≤ x ∧ x ≤ 8
  · rw [if_neg (by omega), if_neg (by omega)]
    by_cases hy : 1 ≤ y ∧ y ≤ 6
    · have hp := bench_prod hx hy
      rw [if_neg (by omega), if_neg (by omega), wrap_id (by omega) (by omega)]
      by_cases hl : (l.length : Int) = x * y
      · rw [if_pos hl]; congr 1
        rw [decide_eq_true (show 1 ≤ l.length ∧ l.length ≤ 120 by omega)]
        simp [hx, hy, hl]
      · rw [if_neg hl]; congr 1; symm; simp [hl]
    · have e : decide (1 ≤ x ∧ x ≤ 8 ∧ 1 ≤ y ∧ y ≤ 6 ∧ (l.length : Int) = x * y) = false := by simp; omega
      rw [e]; split
      · simp
      · rw [if_pos (by omega)]; simp
  · have e : decide (1 ≤ x ∧ x ≤ 8 ∧ 1 ≤ y ∧ y ≤ 6 ∧ (l.length : Int) = x * y) = false := by simp; omega
    rw [e]; split
    · simp
    · rw [if_pos (by omega)]; simp
theorem impl_isDug_ev (x y : Int) (l : List Int) (d : List Bool) (hn : l.length ≤ 9223372036854775807) : Ev (fun k => impl_isDug.f k x y l d) (benchOk x y l && decide (d.length = l.length)) :=
  Ev.of1 (impl_IsBench_ev x y l hn) fun k hk => by
    simp only [impl_isDug.f, hk, Option.bind_some]
    by_cases h : benchOk x y l = true
    · rw [if_pos h, h]; congr 1; simp only [Bool.true_and]; rw [Bool.eq_iff_iff]; simp; omega
    · rw [if_neg h]; simp [h]
def sumAt (l : List Int) : List Int → Int → Int
  | [], a => a
  | x :: xs, a => sumAt l xs (a + rd l x)
theorem impl_valueSum_l0 (l : List Int) (hv : allIn (-1000000) 1000000 l = true) (s : List Int) (hn : s.length ≤ 1000000) (hs : ∀ x ∈ s, 0 ≤ x ∧ x < (l.length : Int)) : ∀ (ys : List Int) (i : Nat) (a : Int), s.drop i = ys → -(1000000 * i) ≤ a ∧ a ≤ 1000000 * i → Ev (fun k => impl_valueSum.l0 k l a s (s.length : Int) i) (sumAt l ys a)
  | [], i, a, h, ha => Ev.next0 fun k => by
      have h0 := drop_nil h
      simp only [impl_valueSum.l0, sumAt]
      rw [if_neg (by omega)]
  | y :: ys, i, a, h, ha => by
      obtain ⟨h1, h2, h3⟩ := drop_cons h
      have hy := hs y (List.mem_of_getElem? h2)
      have e := rd_drop h
      have hg : l[y.toNat]? = some (l[y.toNat]'(by omega)) := List.getElem?_eq_getElem (by omega)
      have hr : -1000000 ≤ rd l y ∧ rd l y ≤ 1000000 := by
        have h5 := rd_get hg
        rw [show ((y.toNat : Nat) : Int) = y by omega] at h5
        rw [h5]; exact allIn_get hv hg
      refine Ev.next1 (impl_valueSum_l0 l hv s hn hs ys (i + 1) (a + rd l y) h3 (by push_cast; omega)) fun k hk => ?_
      simp only [impl_valueSum.l0, e, sumAt]
      rw [if_pos (by omega), if_pos (by omega), if_pos (by omega), if_pos (by omega), if_pos (by omega), wrap_succ h1 (by omega), wrap_id (by omega) (by omega)]
      exact hk
theorem impl_valueSum_ev (l : List Int) (hv : allIn (-1000000) 1000000 l = true) (s : List Int) (hn : s.length ≤ 1000000) (hs : ∀ x ∈ s, 0 ≤ x ∧ x < (l.length : Int)) : Ev (fun k => impl_valueSum.f k l s) (sumAt l s 0) :=
  Ev.of1 (impl_valueSum_l0 l hv s hn hs s 0 0 rfl (by omega)) fun k hk => by simp only [impl_valueSum.f]; exact hk
/-- The indices of what is marked, from i on. -/
def marked : List Bool → Nat → List Int
  | [], _ => []
  | b :: bs, i => if b = true then (i : Int) :: marked bs (i + 1) else marked bs (i + 1)
theorem marked_mem : ∀ {bs : List Bool} {i : Nat} {x : Int}, x ∈ marked bs i → ∃ j : Nat, x = (j : Int) ∧ i ≤ j ∧ j < i + bs.length ∧ bs[j - i]? = some true
  | b :: bs, i, x, h => by
    simp only [marked] at h
    have tail : x ∈ marked bs (i + 1) → ∃ j : Nat, x = (j : Int) ∧ i ≤ j ∧ j < i + (b :: bs).length ∧ (b :: bs)[j - i]? = some true := fun h => by
      obtain ⟨j, e, h1, h2, h3⟩ := marked_mem h
      refine ⟨j, e, by omega, by simp; omega, ?_⟩
      rw [show j - i = (j - (i + 1)) + 1 by omega, List.getElem?_cons_succ]; exact h3
    split at h
    · rename_i hb
      rcases List.mem_cons.1 h with rfl | h
      · exact ⟨i, rfl, by omega, by simp, by simp [hb]⟩
      · exact tail h
    · exact tail h
theorem marked_length : ∀ (bs : List Bool) (i : Nat), (marked bs i).length ≤ bs.length
  | [], _ => by simp [marked]
  | b :: bs, i => by simp only [marked]; have := marked_length bs (i + 1); split <;> simp <;> omega
theorem impl_listOf_l0 (d : List Bool) (hn : d.length ≤ 1048576) : ∀ (bs : List Bool) (i : Nat) (a : List Int), d.drop i = bs → a.length ≤ i → Ev (fun k => impl_listOf.l0 k a d (d.length : Int) i) (a ++ marked bs i)
  | [], i, a, h, ha => Ev.next0 fun k => by
      have h0 := drop_nil h
      simp only [impl_listOf.l0, marked, List.append_nil]
      rw [if_neg (by omega)]
  | b :: bs, i, a, h, ha => by
      obtain ⟨h1, h2, h3⟩ := drop_cons h
      have e2 := rdOf_drop (d := false) h
      cases b with
      | true =>
        refine Ev.next1 (impl_listOf_l0 d hn bs (i + 1) (a ++ [(i : Int)]) h3 (by simp; omega)) fun k hk => ?_
        simp only [impl_listOf.l0, e2, marked]
        rw [if_pos (by omega), if_pos (by omega), if_pos (by omega), if_pos (by simp), if_pos (by omega), wrap_succ h1 (by omega), if_pos (by simp)]
        rw [List.append_assoc] at hk; exact hk
      | false =>
        refine Ev.next1 (impl_listOf_l0 d hn bs (i + 1) a h3 (by omega)) fun k hk => ?_
        simp only [impl_listOf.l0, e2, marked]
        rw [if_pos (by omega), if_pos (by omega), if_pos (by omega), if_neg (by simp), wrap_succ h1 (by omega), if_neg (by simp)]
        exact hk
theorem impl_listOf_ev (d : List Bool) (hn : d.length ≤ 1048576) : Ev (fun k => impl_listOf.f k d) (marked d 0) :=
  Ev.of1 (impl_listOf_l0 d hn d 0 [] rfl (by simp)) fun k hk => by simp only [impl_listOf.f]; exact hk
theorem sumAt_marked (l : List Int) : ∀ (bs : List Bool) (ys : List Int) (i : Nat) (a : Int), l.drop i = ys → bs.length = ys.length → sumAt l (marked bs i) a = dugSum ys bs a
  | [], ys, i, a, h, hl => by cases ys <;> simp [marked, sumAt, dugSum]
  | b :: bs, [], i, a, h, hl => by simp at hl
  | b :: bs, y :: ys, i, a, h, hl => by
      obtain ⟨h1, h2, h3⟩ := drop_cons h
      have hl' : bs.length = ys.length := by simpa using hl
      cases b with
      | true => simp only [marked, if_true, sumAt, dugSum]; rw [rd_drop h]; exact sumAt_marked l bs ys (i + 1) (a + y) h3 hl'
      | false => simp only [marked, sumAt, dugSum]; rw [if_neg (by simp), if_neg (by simp)]; exact sumAt_marked l bs ys (i + 1) a h3 hl'
theorem impl_DigValue_ev (x y : Int) (l : List Int) (d : List Bool) (hn : l.length ≤ 9223372036854775807) : Ev (fun k => impl_DigValue.f k x y l d) (if benchOk x y l = true ∧ d.length = l.length then (dugSum l d 0, true) else (0, false)) := by
  by_cases h : benchOk x y l = true ∧ d.length = l.length
  · have hb := bench_len h.1
    have hm := marked_length d 0
    refine (ev_and (impl_isDug_ev x y l d hn) <| ev_and (impl_listOf_ev d (by omega)) <| ev_one (impl_valueSum_ev l (bench_vals h.1) (marked d 0) (by omega) (fun x hx => by obtain ⟨j, rfl, _, hj, _⟩ := marked_mem hx; omega))).ev fun k ⟨h1, h2, h3⟩ => ?_
    simp only [impl_DigValue.f, h1, h2, h3, Option.bind_some]
    rw [if_pos (by simpa using h), if_pos h, sumAt_marked l d l 0 0 rfl h.2]
  · refine (ev_one (impl_isDug_ev x y l d hn)).ev fun k h1 => ?_
    simp only [impl_DigValue.f, h1, Option.bind_some]
    rw [if_neg (by simpa using h), if_neg h]
theorem j0_ev (x y : Int) (l : List Int) (d : List Bool) (hn : l.length ≤ 1048576) (hm : d.length ≤ 1048576) : Ev (fun k => laws_FnExactDigValue.j0 k d d false x y l x y l) true :=
  (ev_and (laws_toBench_ev x y l hn) <| ev_and (laws_eqBench_ev x y l hn) <| ev_and (laws_toBoolS_ev d (by omega)) <| ev_one (laws_eqBoolS_ev d (by omega))).next fun k ⟨h1, h2, h3, h4⟩ => by
    simp [laws_FnExactDigValue.j0, h1, h2, h3, h4]
theorem FnExactDigValue : Stat.FnExactDigValue := by
  intro x y l d _ _ hl hd
  refine Ev.rounds ?_
  by_cases hq : (d.length : Int) > 1048576
  · exact Ev.all fun k => by simp only [laws_FnExactDigValue.f]; rw [if_pos hq]
  by_cases hg : (1048576 : Int) < l.length
  · refine Ev.all fun k => ?_
    simp only [laws_FnExactDigValue.f, laws_szBench_eq x y l 1048576 (by omega) (by omega) hl.1, Option.bind_some]
    rw [if_neg hq, if_pos hg, if_pos (by omega)]
  · have hn : l.length ≤ 1048576 := by omega
    have hm : d.length ≤ 1048576 := by omega
    refine (ev_and (laws_toBench_ev x y l hn) <| ev_and (laws_toBoolS_ev d (by omega)) <| ev_and (j0_ev x y l d hn hm) <| ev_and (spec_DigValue_ev x y l d (by omega)) <| ev_one (impl_DigValue_ev x y l d (by omega))).ev fun k ⟨h1, h2, h3, h4, h5⟩ => ?_
    simp only [laws_FnExactDigValue.f, laws_szBench_eq x y l 1048576 (by omega) (by omega) hl.1, h1, h2, h4, h5, Option.bind_some]
    rw [if_neg hq, if_neg hg, if_neg (by omega)]
    simp [h3]
end Go.Proofs.Ytkoacjepochjaaa.PureFnExactDigValue
namespace Go.Proofs.Ytkoacjepochjaaa.Pure
theorem FnExactDigValue : Stat.FnExactDigValue := PureFnExactDigValue.FnExactDigValue
end Go.Proofs.Ytkoacjepochjaaa.Pure
