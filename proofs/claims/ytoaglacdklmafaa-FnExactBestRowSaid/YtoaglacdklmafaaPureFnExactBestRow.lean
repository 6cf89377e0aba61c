/- The law FnExactBestRow over numbers and lists: it is true of every input. -/
import Derived.Test.YtoaglacdklmafaaStatFnExactBestRow
import Derived.Test.YtoaglacdklmafaaWMore
set_option linter.unusedVariables false
set_option linter.unusedSimpArgs false
namespace Go.Proofs.Ytoaglacdklmafaa.Kit
open Go.RowKit Go.Proofs.YtoaglacdklmafaaW.PrintWords Go.Proofs.YtoaglacdklmafaaW.PrintMore

/-! ### Rounds -/
theorem Ev.all {α : Type} {g : Nat → Option α} {r : α} (h : ∀ k, g k = some r) : Ev g r := ⟨0, fun k _ => h k⟩
theorem Ev.of1 {α β : Type} {g : Nat → Option α} {f : Nat → Option β} {r : α} {b : β} (h : Ev f b) (k : ∀ k, f k = some b → g k = some r) : Ev g r := by
  obtain ⟨K, h⟩ := h; exact ⟨K, fun n hn => k n (h n hn)⟩
theorem Ev.of2 {α β γ : Type} {g : Nat → Option α} {f : Nat → Option β} {f' : Nat → Option γ} {r : α} {b : β} {c : γ} (h : Ev f b) (h' : Ev f' c) (k : ∀ k, f k = some b → f' k = some c → g k = some r) : Ev g r := by
  obtain ⟨K, h⟩ := h; obtain ⟨K', h'⟩ := h'; exact ⟨K + K', fun n hn => k n (h n (by omega)) (h' n (by omega))⟩
theorem Ev.of3 {α β γ δ : Type} {g : Nat → Option α} {f : Nat → Option β} {f' : Nat → Option γ} {f'' : Nat → Option δ} {r : α} {b : β} {c : γ} {d : δ} (h : Ev f b) (h' : Ev f' c) (h'' : Ev f'' d)
    (k : ∀ k, f k = some b → f' k = some c → f'' k = some d → g k = some r) : Ev g r := by
  obtain ⟨K, h⟩ := h; obtain ⟨K', h'⟩ := h'; obtain ⟨K'', h''⟩ := h''
  exact ⟨K + K' + K'', fun n hn => k n (h n (by omega)) (h' n (by omega)) (h'' n (by omega))⟩
/-- Two at once: a pair of facts for one number of rounds. -/
def Both {α β : Type} (f : Nat → Option α) (g : Nat → Option β) (a : α) (b : β) : Prop := ∃ K, ∀ k, K ≤ k → f k = some a ∧ g k = some b
theorem Ev.next0 {α : Type} {g : Nat → Option α} {r : α} (h : ∀ k, g (k + 1) = some r) : Ev g r :=
  ⟨1, fun n hn => by obtain ⟨m, rfl⟩ : ∃ m, n = m + 1 := ⟨n - 1, by omega⟩; exact h m⟩
theorem Ev.next1 {α β : Type} {g : Nat → Option α} {f : Nat → Option β} {r : α} {b : β} (h : Ev f b) (k : ∀ k, f k = some b → g (k + 1) = some r) : Ev g r := by
  obtain ⟨K, h⟩ := h
  exact ⟨K + 1, fun n hn => by obtain ⟨m, rfl⟩ : ∃ m, n = m + 1 := ⟨n - 1, by omega⟩; exact k m (h m (by omega))⟩
theorem Ev.next2 {α β γ : Type} {g : Nat → Option α} {f : Nat → Option β} {f' : Nat → Option γ} {r : α} {b : β} {c : γ} (h : Ev f b) (h' : Ev f' c) (k : ∀ k, f k = some b → f' k = some c → g (k + 1) = some r) : Ev g r := by
  obtain ⟨K, h⟩ := h; obtain ⟨K', h'⟩ := h'
  exact ⟨K + K' + 1, fun n hn => by obtain ⟨m, rfl⟩ : ∃ m, n = m + 1 := ⟨n - 1, by omega⟩; exact k m (h m (by omega)) (h' m (by omega))⟩
theorem Ev.next3 {α β γ δ : Type} {g : Nat → Option α} {f : Nat → Option β} {f' : Nat → Option γ} {f'' : Nat → Option δ} {r : α} {b : β} {c : γ} {d : δ} (h : Ev f b) (h' : Ev f' c) (h'' : Ev f'' d)
    (k : ∀ k, f k = some b → f' k = some c → f'' k = some d → g (k + 1) = some r) : Ev g r := by
  obtain ⟨K, h⟩ := h; obtain ⟨K', h'⟩ := h'; obtain ⟨K'', h''⟩ := h''
  exact ⟨K + K' + K'' + 1, fun n hn => by obtain ⟨m, rfl⟩ : ∃ m, n = m + 1 := ⟨n - 1, by omega⟩; exact k m (h m (by omega)) (h' m (by omega)) (h'' m (by omega))⟩
theorem Ev.uniq {α : Type} {g : Nat → Option α} {r s : α} (h : Ev g r) (k : Ev g s) : r = s := by
  obtain ⟨K, h⟩ := h; obtain ⟨K', k⟩ := k
  have a := h (K + K') (by omega); have b := k (K + K') (by omega)
  rw [a] at b; exact Option.some.inj b

/-- From some number of rounds on. -/
def Evt (p : Nat → Prop) : Prop := ∃ K, ∀ k, K ≤ k → p k
theorem ev_one {α : Type} {f : Nat → Option α} {a : α} (h : Ev f a) : Evt (fun k => f k = some a) := h
theorem ev_and {α : Type} {f : Nat → Option α} {a : α} {p : Nat → Prop} (h : Ev f a) (h' : Evt p) : Evt (fun k => f k = some a ∧ p k) := by
  obtain ⟨K, h⟩ := h; obtain ⟨K', h'⟩ := h'; exact ⟨K + K', fun n hn => ⟨h n (by omega), h' n (by omega)⟩⟩
theorem Evt.ev {α : Type} {g : Nat → Option α} {r : α} {p : Nat → Prop} (h : Evt p) (k : ∀ k, p k → g k = some r) : Ev g r := by
  obtain ⟨K, h⟩ := h; exact ⟨K, fun n hn => k n (h n hn)⟩
theorem Evt.next {α : Type} {g : Nat → Option α} {r : α} {p : Nat → Prop} (h : Evt p) (k : ∀ k, p k → g (k + 1) = some r) : Ev g r := by
  obtain ⟨K, h⟩ := h
  exact ⟨K + 1, fun n hn => by obtain ⟨m, rfl⟩ : ∃ m, n = m + 1 := ⟨n - 1, by omega⟩; exact k m (h m (by omega))⟩

/-! ### Whole numbers -/
theorem wrap_id {x : Int} (h0 : -9223372036854775808 ≤ x) (h1 : x ≤ 9223372036854775807) : wrap64 x = x := by unfold wrap64; omega
theorem wrap_succ {i n : Nat} (h : i < n) (hn : n ≤ 9223372036854775807) : wrap64 ((i : Int) + 1) = ((i + 1 : Nat) : Int) := by unfold wrap64; omega
theorem toNat_cast (i : Nat) : ((i : Int)).toNat = i := by omega

theorem mx_eq (a b : Int) : mx a b = max a b := by unfold mx; split <;> omega
theorem mn_eq (a b : Int) : mn a b = min a b := by unfold mn; split <;> omega

/-! ### Lists from an index on -/
theorem drop_cons {α : Type} {xs ys : List α} {y : α} {i : Nat} (h : xs.drop i = y :: ys) : i < xs.length ∧ xs[i]? = some y ∧ xs.drop (i + 1) = ys := by
  have hlt : i < xs.length := by
    by_cases hlt : i < xs.length
    · exact hlt
    · rw [List.drop_of_length_le (by omega)] at h; cases h
  rw [List.drop_eq_getElem_cons hlt] at h
  injection h with h1 h2
  exact ⟨hlt, by rw [List.getElem?_eq_getElem hlt, h1], h2⟩
theorem drop_nil {α : Type} {xs : List α} {i : Nat} (h : xs.drop i = []) : xs.length ≤ i := by simpa using h
theorem getD_drop {α : Type} {xs ys : List α} {y d : α} {i : Nat} (h : xs.drop i = y :: ys) : xs.getD ((i : Int)).toNat d = y := by
  rw [toNat_cast, List.getD_eq_getElem?_getD, (drop_cons h).2.1]; rfl
theorem rd_drop {xs ys : List Int} {y : Int} {i : Nat} (h : xs.drop i = y :: ys) : rd xs (i : Int) = y := getD_drop h
theorem rdOf_drop {α : Type} {xs ys : List α} {y d : α} {i : Nat} (h : xs.drop i = y :: ys) : rdOf d xs (i : Int) = y := getD_drop h
theorem getD_get {α : Type} {xs : List α} {y d : α} {i : Nat} (h : xs[i]? = some y) : xs.getD ((i : Int)).toNat d = y := by
  rw [toNat_cast, List.getD_eq_getElem?_getD, h]; rfl
theorem rd_get {xs : List Int} {y : Int} {i : Nat} (h : xs[i]? = some y) : rd xs (i : Int) = y := getD_get h
theorem rdOf_get {α : Type} {xs : List α} {y d : α} {i : Nat} (h : xs[i]? = some y) : rdOf d xs (i : Int) = y := getD_get h
theorem drop_of_get {α : Type} {xs : List α} {y : α} {i : Nat} (h : xs[i]? = some y) : xs.drop i = y :: xs.drop (i + 1) := by
  obtain ⟨hl, rfl⟩ := List.getElem?_eq_some_iff.1 h
  exact List.drop_eq_getElem_cons hl

/-- What is left of a, n taken off; -1 if it isn't enough. -/
def left (a : Int) (n : Nat) : Int := if a < (n : Int) then -1 else a - (n : Int)
theorem left_lt {a : Int} {n : Nat} (h : a < (n : Int)) : left a n = -1 := if_pos h
theorem left_ge {a : Int} {n : Nat} (h : (n : Int) ≤ a) : left a n = a - (n : Int) := if_neg (by omega)
/-- How many values rows hold, the rows counted too. -/
def tot : List (List Int) → Nat
  | [] => 0
  | y :: ys => 1 + y.length + tot ys
def sumLen : List (List Int) → Nat
  | [] => 0
  | y :: ys => y.length + sumLen ys
theorem tot_eq : ∀ ls : List (List Int), tot ls = ls.length + sumLen ls
  | [] => rfl
  | y :: ys => by simp only [tot, sumLen, List.length_cons, tot_eq ys]; omega
theorem sumLen_mem : ∀ {ls : List (List Int)} {y : List Int}, y ∈ ls → y.length ≤ sumLen ls
  | z :: zs, y, h => by
    rcases List.mem_cons.1 h with rfl | h
    · simp only [sumLen]; omega
    · have := sumLen_mem h; simp only [sumLen]; omega

/-! ### A list that is copied, element for element -/
theorem copy_step {α : Type} {m x : List α} {y : α} {i : Nat} (hm : m[i]? = some y) (hl : x.length = m.length) (ht : x.take i = m.take i) : (x.set i y).length = m.length ∧ (x.set i y).take (i + 1) = m.take (i + 1) := by
  obtain ⟨hi, rfl⟩ := List.getElem?_eq_some_iff.1 hm
  refine ⟨by simpa using hl, ?_⟩
  apply List.ext_getElem?
  intro j
  have hj : (x.take i)[j]? = (m.take i)[j]? := by rw [ht]
  rw [List.getElem?_take, List.getElem?_take] at *
  by_cases h1 : j < i + 1
  · rw [if_pos h1, if_pos h1]
    by_cases h2 : j = i
    · subst h2
      rw [List.getElem?_set_self (by omega), List.getElem?_eq_getElem hi]
    · rw [List.getElem?_set_ne (by omega)]
      rw [if_pos (by omega), if_pos (by omega)] at hj
      exact hj
  · rw [if_neg h1, if_neg h1]
theorem copy_end {α : Type} {m x : List α} {i : Nat} (hl : x.length = m.length) (ht : x.take i = m.take i) (hi : m.length ≤ i) : x = m := by
  rw [List.take_of_length_le (by omega), List.take_of_length_le hi] at ht; exact ht

/-! ### Strictly increasing lists of 0..n-1 -/
def rise (n : Int) : Int → List Int → Bool
  | _, [] => true
  | p, y :: ys => decide (0 ≤ y ∧ y < n ∧ p < y) && rise n y ys
theorem rise_mem {n : Int} : ∀ {p : Int} {ys : List Int}, rise n p ys = true → ∀ y ∈ ys, 0 ≤ y ∧ y < n ∧ p < y
  | p, [], _, y, hy => by cases hy
  | p, z :: zs, h, y, hy => by
    simp only [rise, Bool.and_eq_true, decide_eq_true_eq] at h
    rcases List.mem_cons.1 hy with rfl | hy
    · exact h.1
    · have := rise_mem h.2 y hy; omega

/-! ### Numbers marked and held -/
def markI : Nat → Int → List Int
  | 0, _ => []
  | n + 1, k => k :: markI n (k + 1)
theorem markI_length : ∀ (n : Nat) (k : Int), (markI n k).length = n
  | 0, _ => rfl
  | n + 1, k => by simp [markI, markI_length n (k + 1)]
theorem markI_get : ∀ (n : Nat) (k : Int) (j : Nat), j < n → (markI n k)[j]? = some (k + j)
  | 0, _, _, h => by omega
  | n + 1, k, 0, _ => by simp [markI]
  | n + 1, k, j + 1, h => by simp only [markI, List.getElem?_cons_succ]; rw [markI_get n (k + 1) j (by omega)]; congr 1; push_cast; omega
def markB : Nat → Int → List Bool
  | 0, _ => []
  | n + 1, k => (Int.tmod k 3 == 0) :: markB n (k + 1)
theorem markB_length : ∀ (n : Nat) (k : Int), (markB n k).length = n
  | 0, _ => rfl
  | n + 1, k => by simp [markB, markB_length n (k + 1)]
theorem markB_get : ∀ (n : Nat) (k : Int) (j : Nat), j < n → (markB n k)[j]? = some (Int.tmod (k + j) 3 == 0)
  | 0, _, _, h => by omega
  | n + 1, k, 0, _ => by simp [markB]
  | n + 1, k, j + 1, h => by simp only [markB, List.getElem?_cons_succ]; rw [markB_get n (k + 1) j (by omega)]; congr 2; congr 1; push_cast; omega
end Go.Proofs.Ytoaglacdklmafaa.Kit
namespace Go.Proofs.Ytoaglacdklmafaa.Model
open Go.RowKit Go.Proofs.YtoaglacdklmafaaW.PrintWords Go.Proofs.Ytoaglacdklmafaa.Kit

/-- Numbers within bounds, all of them. -/
def allIn (lo hi : Int) : List Int → Bool
  | [] => true
  | y :: ys => decide (lo ≤ y ∧ y ≤ hi) && allIn lo hi ys
theorem allIn_mem {lo hi : Int} : ∀ {ys : List Int}, allIn lo hi ys = true → ∀ y ∈ ys, lo ≤ y ∧ y ≤ hi
  | [], _, y, hy => by cases hy
  | z :: zs, h, y, hy => by
    simp only [allIn, Bool.and_eq_true, decide_eq_true_eq] at h
    rcases List.mem_cons.1 hy with rfl | hy
    · exact h.1
    · exact allIn_mem h.2 y hy
theorem allIn_get {lo hi : Int} {ys : List Int} (h : allIn lo hi ys = true) {i : Nat} {y : Int} (hy : ys[i]? = some y) : lo ≤ y ∧ y ≤ hi := allIn_mem h y (List.mem_of_getElem? hy)
theorem allIn_of {lo hi : Int} : ∀ {ys : List Int}, (∀ y ∈ ys, lo ≤ y ∧ y ≤ hi) → allIn lo hi ys = true
  | [], _ => rfl
  | z :: zs, h => by simp only [allIn, Bool.and_eq_true, decide_eq_true_eq]; exact ⟨h z (by simp), allIn_of fun y hy => h y (by simp [hy])⟩

/-- The greatest number of 'false' behind each other; m: so far; n: those just before. -/
def down : List Bool → Int → Int → Int
  | [], m, _ => m
  | b :: bs, m, n => if b = true then down bs (max m 0) 0 else down bs (max m (n + 1)) (n + 1)

def mixStep (a x : Int) : Int := Int.tmod (wrap64 ((Int.tmod (wrap64 ((wrap64 ((wrap64 (33 * a)) + x)) + 11)) 1000003) * (wrap64 ((wrap64 (Int.tdiv (Int.tmod (wrap64 ((wrap64 ((wrap64 (33 * a)) + x)) + 11)) 1000003) 16)) + 7)))) 1000003
def mix (l : List Int) : Int := (l ++ [5, 2]).foldl mixStep (wrap64 (6007 + (l.length : Int)))
def keyOk (l : List Int) : Bool := decide (l.length ≤ 8) && allIn 0 1000000000 l

def gridOk (x y z : Int) : Bool := decide (1 ≤ x ∧ x ≤ 8 ∧ 1 ≤ y ∧ y ≤ 6 ∧ 1 ≤ z ∧ z ≤ 5 ∧ x * y * z ≤ 120)
theorem grid_prod {x y z : Int} (hx : 1 ≤ x ∧ x ≤ 8) (hy : 1 ≤ y ∧ y ≤ 6) (hz : 1 ≤ z ∧ z ≤ 5) : 1 ≤ x * y ∧ x * y ≤ 48 ∧ 1 ≤ x * y * z ∧ x * y * z ≤ 240 := by
  rcases (by omega : x = 1 ∨ x = 2 ∨ x = 3 ∨ x = 4 ∨ x = 5 ∨ x = 6 ∨ x = 7 ∨ x = 8) with rfl | rfl | rfl | rfl | rfl | rfl | rfl | rfl <;>
    rcases (by omega : z = 1 ∨ z = 2 ∨ z = 3 ∨ z = 4 ∨ z = 5) with rfl | rfl | rfl | rfl | rfl <;> omega
theorem grid_ok {x y z : Int} (h : gridOk x y z = true) : (1 ≤ x ∧ x ≤ 8) ∧ (1 ≤ y ∧ y ≤ 6) ∧ (1 ≤ z ∧ z ≤ 5) ∧ 1 ≤ x * y ∧ x * y ≤ 48 ∧ 1 ≤ x * y * z ∧ x * y * z ≤ 120 := by
  simp only [gridOk, decide_eq_true_eq] at h
  have := grid_prod (x := x) (y := y) (z := z) (by omega) (by omega) (by omega)
  omega
theorem grid_wrap {x y z : Int} (hx : 1 ≤ x ∧ x ≤ 8) (hy : 1 ≤ y ∧ y ≤ 6) (hz : 1 ≤ z ∧ z ≤ 5) : wrap64 (wrap64 (x * y) * z) = x * y * z := by
  have := grid_prod hx hy hz
  rw [wrap_id (x := x * y) (by omega) (by omega), wrap_id (by omega) (by omega)]
def holeOk (gx gy gz x y z t g : Int) : Bool := decide (0 ≤ x ∧ x < 10 * gx ∧ 0 ≤ y ∧ y < 10 * gy ∧ 0 ≤ z ∧ z < 10 * gz ∧ 1 ≤ t ∧ t ≤ 1000 ∧ 0 ≤ g ∧ g ≤ 1000)
def benchOk (x y : Int) (l : List Int) : Bool := decide (1 ≤ x ∧ x ≤ 8 ∧ 1 ≤ y ∧ y ≤ 6 ∧ (l.length : Int) = x * y) && allIn (-1000000) 1000000 l
theorem bench_prod {x y : Int} (hx : 1 ≤ x ∧ x ≤ 8) (hy : 1 ≤ y ∧ y ≤ 6) : 1 ≤ x * y ∧ x * y ≤ 48 := by
  rcases (by omega : x = 1 ∨ x = 2 ∨ x = 3 ∨ x = 4 ∨ x = 5 ∨ x = 6 ∨ x = 7 ∨ x = 8) with rfl | rfl | rfl | rfl | rfl | rfl | rfl | rfl <;> omega
theorem bench_len {x y : Int} {l : List Int} (h : benchOk x y l = true) : (1 ≤ x ∧ x ≤ 8) ∧ (1 ≤ y ∧ y ≤ 6) ∧ (l.length : Int) = x * y ∧ 1 ≤ l.length ∧ l.length ≤ 48 := by
  simp only [benchOk, Bool.and_eq_true, decide_eq_true_eq] at h
  have := bench_prod (x := x) (y := y) (by omega) (by omega)
  omega
theorem bench_vals {x y : Int} {l : List Int} (h : benchOk x y l = true) : allIn (-1000000) 1000000 l = true := by
  simp only [benchOk, Bool.and_eq_true] at h; exact h.2
def rowHolds (l : List Int) : Bool := decide (rd l 0 = wrap64 (wrap64 (rd l 2 + rd l 4) + rd l 6)) && (rd l 1 == wrap64 (wrap64 (rd l 3 + rd l 5) + rd l 7))
def rowOk (l : List Int) : Bool := decide (l.length = 12) && allIn 0 100000000000 l
def rowsOk : List (List Int) → Bool
  | [] => true
  | y :: ys => rowOk y && rowsOk ys
theorem rowsOk_mem : ∀ {ls : List (List Int)}, rowsOk ls = true → ∀ y ∈ ls, rowOk y = true
  | z :: zs, h, y, hy => by
    simp only [rowsOk, Bool.and_eq_true] at h
    rcases List.mem_cons.1 hy with rfl | hy
    · exact h.1
    · exact rowsOk_mem h.2 y hy
theorem row_len {y : List Int} (h : rowOk y = true) : y.length = 12 := by simp [rowOk] at h; exact h.1
theorem row_rd {y : List Int} (h : rowOk y = true) (i : Nat) (hi : i < 12) : 0 ≤ rd y (i : Int) ∧ rd y (i : Int) ≤ 100000000000 := by
  have hl := row_len h
  simp only [rowOk, Bool.and_eq_true] at h
  have hg : y[i]? = some (y[i]'(by omega)) := List.getElem?_eq_getElem (by omega)
  rw [rd_get hg]
  exact allIn_get h.2 hg
def piles : List (List Int) → Int → Int
  | [], m => m
  | y :: ys, m => piles ys (max m (rd y 10))
/-- The first row that doesn't balance, from index i on. -/
def imbal : List (List Int) → Nat → Int → Int → Nat
  | [], i, _, _ => i
  | y :: ys, i, t, m => if rowHolds y = true ∧ rd y 10 = t + (rd y 4 - rd y 8) ∧ rd y 11 = m + (rd y 5 - rd y 9) then imbal ys (i + 1) (rd y 10) (rd y 11) else i
def machOk (a b : Int) : Bool := decide (0 ≤ a ∧ a ≤ 100 ∧ 0 ≤ b ∧ b ≤ 100)
/-- The states of a machine: d shifts, from shift s on; 'now': is it ready? -/
def states (f r key : Int) : Nat → Int → Bool → List Bool
  | 0, _, _ => []
  | d + 1, s, now => now :: states f r key d (s + 1) (if Int.tmod (mix [key, s, 3, 100]) 100 < (if now = true then f else r) then !now else now)
theorem states_length (f r key : Int) : ∀ (d : Nat) (s : Int) (now : Bool), (states f r key d s now).length = d
  | 0, _, _ => rfl
  | d + 1, s, now => by simp [states, states_length]
/-- Tonnes and losses of a bench. -/
def lossWaste : List Int → List Bool → Int → Int → Int × Int
  | v :: vs, b :: bs, l, w => if b = true then lossWaste vs bs l (w + max 0 (-v)) else lossWaste vs bs (l + max 0 v) w
  | _, _, l, w => (l, w)
def dugSum : List Int → List Bool → Int → Int
  | v :: vs, b :: bs, s => dugSum vs bs (if b = true then s + v else s)
  | _, _, s => s
def modelOk (x y z : Int) (t g r : List Int) : Bool := gridOk x y z && decide ((t.length : Int) = x * y * z ∧ (g.length : Int) = x * y * z ∧ (r.length : Int) = x * y * z) && (allIn 0 10000 t && (allIn 0 1000 g && allIn 0 4 r))
theorem sq_bd {d : Int} (h : -1000 ≤ d ∧ d ≤ 1000) : 0 ≤ d * d ∧ d * d ≤ 1000000 := by
  rcases Int.le_total 0 d with h0 | h0
  · exact ⟨Int.mul_nonneg h0 h0, Int.mul_le_mul h.2 h.2 h0 (by omega)⟩
  · rw [← Int.neg_mul_neg]
    exact ⟨Int.mul_nonneg (by omega) (by omega), Int.mul_le_mul (a := -d) (b := -d) (c := 1000) (d := 1000) (by omega) (by omega) (by omega) (by omega)⟩
/-- The square of the distance of a place from the middle of a block's place. -/
def farOf (px py pz x y z : Int) : Int := (x - 10 * px - 5) * (x - 10 * px - 5) + (y - 10 * py - 5) * (y - 10 * py - 5) + (z - 10 * pz - 5) * (z - 10 * pz - 5)
theorem far_nonneg (px py pz x y z : Int) : 0 ≤ farOf px py pz x y z := by
  have h : ∀ d : Int, 0 ≤ d * d := fun d => by
    rcases Int.le_total 0 d with h0 | h0
    · exact Int.mul_nonneg h0 h0
    · rw [← Int.neg_mul_neg]; exact Int.mul_nonneg (by omega) (by omega)
  have a := h (x - 10 * px - 5); have b := h (y - 10 * py - 5); have c := h (z - 10 * pz - 5)
  unfold farOf; omega
theorem far_wrap {px py pz x y z : Int} (hx : 0 ≤ px ∧ px ≤ 10) (hy : 0 ≤ py ∧ py ≤ 10) (hz : 0 ≤ pz ∧ pz ≤ 10) (kx : 0 ≤ x ∧ x ≤ 100) (ky : 0 ≤ y ∧ y ≤ 100) (kz : 0 ≤ z ∧ z ≤ 100) :
    wrap64 ((wrap64 ((wrap64 ((wrap64 ((wrap64 (x - (wrap64 (10 * px)))) - 5)) * (wrap64 ((wrap64 (x - (wrap64 (10 * px)))) - 5)))) + (wrap64 ((wrap64 ((wrap64 (y - (wrap64 (10 * py)))) - 5)) * (wrap64 ((wrap64 (y - (wrap64 (10 * py)))) - 5)))))) + (wrap64 ((wrap64 ((wrap64 (z - (wrap64 (10 * pz)))) - 5)) * (wrap64 ((wrap64 (z - (wrap64 (10 * pz)))) - 5))))) = farOf px py pz x y z := by
  have a := sq_bd (d := x - 10 * px - 5) (by omega)
  have b := sq_bd (d := y - 10 * py - 5) (by omega)
  have c := sq_bd (d := z - 10 * pz - 5) (by omega)
  rw [wrap_id (x := 10 * px) (by omega) (by omega), wrap_id (x := 10 * py) (by omega) (by omega), wrap_id (x := 10 * pz) (by omega) (by omega),
    wrap_id (x := x - 10 * px) (by omega) (by omega), wrap_id (x := y - 10 * py) (by omega) (by omega), wrap_id (x := z - 10 * pz) (by omega) (by omega),
    wrap_id (x := x - 10 * px - 5) (by omega) (by omega), wrap_id (x := y - 10 * py - 5) (by omega) (by omega), wrap_id (x := z - 10 * pz - 5) (by omega) (by omega),
    wrap_id (x := (x - 10 * px - 5) * (x - 10 * px - 5)) (by omega) (by omega), wrap_id (x := (y - 10 * py - 5) * (y - 10 * py - 5)) (by omega) (by omega), wrap_id (x := (z - 10 * pz - 5) * (z - 10 * pz - 5)) (by omega) (by omega),
    wrap_id (x := (x - 10 * px - 5) * (x - 10 * px - 5) + (y - 10 * py - 5) * (y - 10 * py - 5)) (by omega) (by omega), wrap_id (by omega) (by omega)]
  rfl
def near {α : Type} (far : α → Int) : List α → Int → Int → Int → Int
  | [], _, best, _ => best
  | h :: hs, i, best, least => if least < 0 ∨ far h < least then near far hs (i + 1) i (far h) else near far hs (i + 1) best least
def hasBlock (x y z i : Int) : Bool := gridOk x y z && decide (0 ≤ i ∧ i < x * y * z)
theorem place_of {x y z i : Int} (h : hasBlock x y z i = true) : (0 ≤ i % x ∧ i % x < x) ∧ (0 ≤ i / x % y ∧ i / x % y < y) ∧ (0 ≤ i / x / y ∧ i / x / y < z) ∧ 0 ≤ i / x ∧ i / x ≤ 120 := by
  simp only [hasBlock, Bool.and_eq_true, decide_eq_true_eq] at h
  have hb := grid_ok h.1
  have hi := h.2
  have h1 : 0 ≤ i / x := Int.ediv_nonneg (by omega) (by omega)
  have h2 : i / x < y * z := by
    apply Int.ediv_lt_of_lt_mul (by omega)
    rw [Int.mul_comm (y * z) x, ← Int.mul_assoc]; exact hi.2
  have h3 : i / x / y < z := by
    apply Int.ediv_lt_of_lt_mul (by omega)
    rw [Int.mul_comm z y]; exact h2
  have h4 : i / x ≤ i := Int.ediv_le_self _ (by omega)
  exact ⟨⟨Int.emod_nonneg _ (by omega), Int.emod_lt_of_pos _ (by omega)⟩, ⟨Int.emod_nonneg _ (by omega), Int.emod_lt_of_pos _ (by omega)⟩, ⟨Int.ediv_nonneg h1 (by omega), h3⟩, h1, by omega⟩
/-- A fraction in lowest terms, of numbers that are not negative. -/
def low (a b : Int) : Int × Int := (a / (Nat.gcd a.natAbs b.natAbs : Int), b / (Nat.gcd a.natAbs b.natAbs : Int))
theorem low_bd {a b : Int} (ha : 0 ≤ a) (hb : 0 < b) : 1 ≤ (Nat.gcd a.natAbs b.natAbs : Int) ∧ 0 ≤ (low a b).1 ∧ (low a b).1 ≤ a ∧ 1 ≤ (low a b).2 ∧ (low a b).2 ≤ b ∧ a = (low a b).1 * (Nat.gcd a.natAbs b.natAbs : Int) ∧ b = (low a b).2 * (Nat.gcd a.natAbs b.natAbs : Int) := by
  have hg : 0 < Nat.gcd a.natAbs b.natAbs := Nat.gcd_pos_of_pos_right _ (by omega)
  have d1 : (Nat.gcd a.natAbs b.natAbs : Int) ∣ a := Int.natAbs_dvd_natAbs.1 (by simpa using Nat.gcd_dvd_left a.natAbs b.natAbs)
  have d2 : (Nat.gcd a.natAbs b.natAbs : Int) ∣ b := Int.natAbs_dvd_natAbs.1 (by simpa using Nat.gcd_dvd_right a.natAbs b.natAbs)
  have e1 := Int.ediv_mul_cancel d1
  have e2 := Int.ediv_mul_cancel d2
  have h1 : 0 ≤ a / (Nat.gcd a.natAbs b.natAbs : Int) := Int.ediv_nonneg ha (by omega)
  have h2 : a / (Nat.gcd a.natAbs b.natAbs : Int) ≤ a := Int.ediv_le_self _ ha
  have h3 : 0 ≤ b / (Nat.gcd a.natAbs b.natAbs : Int) := Int.ediv_nonneg (by omega) (by omega)
  have h4 : b / (Nat.gcd a.natAbs b.natAbs : Int) ≤ b := Int.ediv_le_self _ (by omega)
  refine ⟨by omega, h1, h2, ?_, h4, e1.symm, e2.symm⟩
  by_cases h5 : b / (Nat.gcd a.natAbs b.natAbs : Int) = 0
  · rw [h5] at e2; omega
  · show 1 ≤ b / (Nat.gcd a.natAbs b.natAbs : Int); omega
theorem low_scale {a b c : Int} (ha : 0 ≤ a) (hb : 0 < b) (hc : 0 < c) : low (a * c) (b * c) = low a b := by
  have hg : 0 < Nat.gcd a.natAbs b.natAbs := Nat.gcd_pos_of_pos_right _ (by omega)
  have e : (Nat.gcd (a * c).natAbs (b * c).natAbs : Int) = (Nat.gcd a.natAbs b.natAbs : Int) * c := by
    rw [Int.natAbs_mul, Int.natAbs_mul, Nat.gcd_mul_right, Int.natCast_mul]; congr 1; omega
  simp only [low, e]
  rw [Int.mul_ediv_mul_of_pos_left _ _ hc, Int.mul_ediv_mul_of_pos_left _ _ hc]
/-- Ready and down, behind one shift more. -/
def turn (f r : Int) (p : Int × Int) : Int × Int := (p.1 * (100 - f) + p.2 * r, p.1 * f + p.2 * (100 - r))
def turns (f r : Int) : Nat → Int × Int → Int × Int
  | 0, p => p
  | n + 1, p => turns f r n (turn f r p)
def begin_ (c : Bool) : Int × Int := if c = true then (1, 0) else (0, 1)
theorem turn_bd {f r : Int} {p : Int × Int} (hm : machOk f r = true) (h1 : 0 ≤ p.1) (h2 : 0 ≤ p.2) :
    (0 ≤ p.1 * (100 - f) ∧ p.1 * (100 - f) ≤ p.1 * 100) ∧ (0 ≤ p.2 * r ∧ p.2 * r ≤ p.2 * 100) ∧ (0 ≤ p.1 * f ∧ p.1 * f ≤ p.1 * 100) ∧ (0 ≤ p.2 * (100 - r) ∧ p.2 * (100 - r) ≤ p.2 * 100) ∧ p.1 * f = p.1 * 100 - p.1 * (100 - f) ∧ p.2 * (100 - r) = p.2 * 100 - p.2 * r := by
  simp only [machOk, decide_eq_true_eq] at hm
  have m : ∀ {a b : Int}, 0 ≤ a → 0 ≤ b → b ≤ 100 → 0 ≤ a * b ∧ a * b ≤ a * 100 := fun ha hb hc => ⟨Int.mul_nonneg ha hb, Int.mul_le_mul_of_nonneg_left hc ha⟩
  refine ⟨m h1 (by omega) (by omega), m h2 (by omega) (by omega), m h1 (by omega) (by omega), m h2 (by omega) (by omega), ?_, ?_⟩
  · rw [Int.mul_sub]; omega
  · rw [Int.mul_sub]
theorem turn_sum {f r : Int} {p : Int × Int} (hm : machOk f r = true) (h1 : 0 ≤ p.1) (h2 : 0 ≤ p.2) : 0 ≤ (turn f r p).1 ∧ 0 ≤ (turn f r p).2 ∧ (turn f r p).1 + (turn f r p).2 = (p.1 + p.2) * 100 := by
  have := turn_bd hm h1 h2
  simp only [turn]; omega
theorem turns_sum {f r : Int} (hm : machOk f r = true) : ∀ (n : Nat) (p : Int × Int), 0 ≤ p.1 → 0 ≤ p.2 → 0 ≤ (turns f r n p).1 ∧ 0 ≤ (turns f r n p).2 ∧ (turns f r n p).1 + (turns f r n p).2 = (p.1 + p.2) * 100 ^ n
  | 0, p, h1, h2 => by simp [turns, h1, h2]
  | n + 1, p, h1, h2 => by
    have a := turn_sum hm h1 h2
    have b := turns_sum hm n (turn f r p) a.1 a.2.1
    simp only [turns]
    refine ⟨b.1, b.2.1, ?_⟩
    rw [b.2.2, a.2.2, Int.pow_succ, Int.mul_assoc, Int.mul_comm 100 (100 ^ n)]
theorem pow_ge (n : Nat) : 1 ≤ (100 : Int) ^ n := by have := Int.pow_pos (n := 100) (m := n) (by omega); omega
/-- What the shifts tell: the first number of each. -/
def tells (f r : Int) : Nat → Int × Int → List Int
  | 0, _ => []
  | n + 1, p => (turn f r p).1 :: tells f r n (turn f r p)
theorem tells_length (f r : Int) : ∀ (n : Nat) (p : Int × Int), (tells f r n p).length = n
  | 0, _ => rfl
  | n + 1, p => by simp [tells, tells_length f r n]
theorem tells_get (f r : Int) : ∀ (n : Nat) (p : Int × Int) (s : Nat), s < n → (tells f r n p)[s]? = some (turns f r (s + 1) p).1
  | 0, _, s, h => by omega
  | n + 1, p, 0, h => by simp [tells, turns]
  | n + 1, p, s + 1, h => by simp only [tells, List.getElem?_cons_succ]; rw [tells_get f r n (turn f r p) s (by omega)]; rfl
/-- The sum of the first j numbers, each brought to 100 to the power e. -/
def meanSum (C : Nat → Int) (e : Nat) : Nat → Int
  | 0 => 0
  | j + 1 => meanSum C e j + C j * 100 ^ (e - j)
theorem meanSum_bd {C : Nat → Int} {e : Nat} (hC : ∀ s, s ≤ 5 → 0 ≤ C s ∧ C s ≤ 100 ^ s) : ∀ j, j ≤ e + 1 → j ≤ 5 → (0 ≤ meanSum C e j ∧ meanSum C e j ≤ j * 100 ^ e) ∧ (j ≤ e → 0 ≤ C j * 100 ^ (e - j) ∧ C j * 100 ^ (e - j) ≤ 100 ^ e)
  | 0, h, h5 => ⟨by simp [meanSum], fun _ => by
      have c := hC 0 (by omega)
      refine ⟨Int.mul_nonneg c.1 (by have := pow_ge (e - 0); omega), ?_⟩
      have h : C 0 * 100 ^ (e - 0) ≤ 1 * 100 ^ (e - 0) := Int.mul_le_mul_of_nonneg_right (by simpa using c.2) (by have := pow_ge (e - 0); omega)
      simpa using h⟩
  | j + 1, h, h5 => by
    have a := meanSum_bd (e := e) hC j (by omega) (by omega)
    have a2 := a.2 (by omega)
    refine ⟨?_, fun hj => ?_⟩
    · simp only [meanSum]
      have e1 : ((j + 1 : Nat) : Int) * 100 ^ e = (j : Int) * 100 ^ e + 100 ^ e := by rw [Int.natCast_succ, Int.add_mul, Int.one_mul]
      omega
    · have c := hC (j + 1) h5
      have hp := pow_ge (e - (j + 1))
      refine ⟨Int.mul_nonneg c.1 (by omega), ?_⟩
      have q : C (j + 1) * 100 ^ (e - (j + 1)) ≤ 100 ^ (j + 1) * 100 ^ (e - (j + 1)) := Int.mul_le_mul_of_nonneg_right c.2 (by omega)
      rw [← Int.pow_add (100 : Int) (j + 1) (e - (j + 1)), show j + 1 + (e - (j + 1)) = e by omega] at q
      exact q
theorem meanSum_scale (C : Nat → Int) (e d : Nat) : ∀ j, j ≤ e + 1 → meanSum C (e + d) j = meanSum C e j * 100 ^ d
  | 0, h => by simp [meanSum]
  | j + 1, h => by
    simp only [meanSum]
    rw [meanSum_scale C e d j (by omega), Int.add_mul, Int.mul_assoc (C j), ← Int.pow_add, show e + d - j = e - j + d by omega]
theorem pow_div (j : Nat) (h : j ≤ 4) : (100000000 : Int) / 100 ^ j = 100 ^ (4 - j) := by
  rcases (by omega : j = 0 ∨ j = 1 ∨ j = 2 ∨ j = 3 ∨ j = 4) with rfl | rfl | rfl | rfl | rfl <;> decide
/-- A row of cells and rows of them, as bytes: the last row first. -/
def rowBytes (bs : List Bool) : List Int := bs.map fun b => if b = true then 35 else 46
def digBytes (d : List Bool) (w : Nat) : Nat → List Int
  | 0 => []
  | y + 1 => rowBytes ((d.drop (y * w)).take w) ++ 10 :: digBytes d w y
theorem str_snoc (xs : List Int) (x : Int) (b : UInt8) (h : UInt8.ofNat x.toNat = b) : strOfNums xs ++ (⟨#[b]⟩ : ByteArray) = strOfNums (xs ++ [x]) := by
  apply ByteArray.ext
  simp [strOfNums, ByteArray.data_append, h]
theorem grid_row {w y : Nat} {n : Nat} (hw : 1 ≤ w ∧ w ≤ 8) (hy : y < 6) (hn : (y + 1) * w ≤ n) (h48 : n ≤ 48) : y * w ≤ 48 ∧ (y + 1) * w = y * w + w ∧ y * w + w ≤ n := by
  rw [Nat.add_mul, Nat.one_mul] at hn ⊢; omega
end Go.Proofs.Ytoaglacdklmafaa.Model
namespace Go.Proofs.Ytoaglacdklmafaa.PureFnExactBestRow
open Go.RowKit Go.Proofs.Ytoaglacdklmafaa.PFnExactBestRow Go.Proofs.YtoaglacdklmafaaW.PrintWords Go.Proofs.YtoaglacdklmafaaW.PrintLast Go.Proofs.YtoaglacdklmafaaW.PrintMore Go.Proofs.Ytoaglacdklmafaa.Kit Go.Proofs.Ytoaglacdklmafaa.Model
theorem laws_eqBoolS_l0 (l : List Bool) (hn : l.length ≤ 9223372036854775807) : ∀ (ys : List Bool) (i : Nat), l.drop i = ys → Ev (fun k => laws_eqBoolS.l0 k l l i) true
  | [], i, h => Ev.next0 fun k => by
      have h0 := drop_nil h
      simp only [laws_eqBoolS.l0]
      rw [if_neg (by omega)]
  | y :: ys, i, h => by
      obtain ⟨h1, h2, h3⟩ := drop_cons h
      refine Ev.next1 (laws_eqBoolS_l0 l hn ys (i + 1) h3) fun k hk => ?_
      have e := rdOf_drop (d := false) h
      simp only [laws_eqBoolS.l0, e]
      rw [if_pos (by omega), if_pos (by omega), if_pos (by omega), if_neg (by simp), wrap_succ h1 hn]
      exact hk
theorem laws_eqBoolS_ev (l : List Bool) (hn : l.length ≤ 9223372036854775807) : Ev (fun k => laws_eqBoolS.f k l l) true :=
  Ev.of1 (laws_eqBoolS_l0 l hn l 0 rfl) fun k hk => by
    simp only [laws_eqBoolS.f]
    rw [if_pos (by simp)]
    exact hk
theorem laws_eqIntS_l0 (l : List Int) (hn : l.length ≤ 9223372036854775807) : ∀ (ys : List Int) (i : Nat), l.drop i = ys → Ev (fun k => laws_eqIntS.l0 k l l i) true
  | [], i, h => Ev.next0 fun k => by
      have h0 := drop_nil h
      simp only [laws_eqIntS.l0]
      rw [if_neg (by omega)]
  | y :: ys, i, h => by
      obtain ⟨h1, h2, h3⟩ := drop_cons h
      refine Ev.next1 (laws_eqIntS_l0 l hn ys (i + 1) h3) fun k hk => ?_
      have e := rd_drop h
      simp only [laws_eqIntS.l0, e]
      rw [if_pos (by omega), if_pos (by omega), if_pos (by omega), if_pos (by simp), wrap_succ h1 hn]
      exact hk
theorem laws_eqIntS_ev (l : List Int) (hn : l.length ≤ 9223372036854775807) : Ev (fun k => laws_eqIntS.f k l l) true :=
  Ev.of1 (laws_eqIntS_l0 l hn l 0 rfl) fun k hk => by
    simp only [laws_eqIntS.f]
    rw [if_pos (by simp)]
    exact hk
theorem laws_markIntS_l0 (n : Nat) (c : Int) (hc : 0 ≤ c) (hb : c + n ≤ 9223372036854775807) : ∀ (d i : Nat) (x : List Int), i + d = n → x.length = n → x.take i = (markI n c).take i → Ev (fun k => laws_markIntS.l0 k x (c + (i : Int)) i) (c + (n : Int), markI n c)
  | 0, i, x, hd, hl, ht => Ev.next0 fun k => by
      simp only [laws_markIntS.l0]
      rw [if_neg (by omega), copy_end (by rw [hl, markI_length]) ht (by rw [markI_length]; omega), show i = n by omega]
  | d + 1, i, x, hd, hl, ht => by
      obtain ⟨c1, c2⟩ := copy_step (markI_get n c i (by omega)) (by rw [hl, markI_length]) ht
      refine Ev.next1 (laws_markIntS_l0 n c hc hb d (i + 1) _ (by omega) (by rw [c1, markI_length]) c2) fun k hk => ?_
      simp only [laws_markIntS.l0]
      rw [if_pos (by omega), if_pos (by omega), wrap_succ (n := n) (by omega) (by omega), wrap_id (by omega) (by omega), toNat_cast, show c + (i : Int) + 1 = c + ((i + 1 : Nat) : Int) by push_cast; omega]
      exact hk
theorem laws_markIntS_ev (x : List Int) (c : Int) (hc : 0 ≤ c) (hb : c + x.length ≤ 9223372036854775807) : Ev (fun k => laws_markIntS.f k x c) (c + (x.length : Int), markI x.length c) :=
  Ev.of1 (laws_markIntS_l0 x.length c hc hb x.length 0 x (by omega) rfl rfl) fun k hk => by
    simp only [laws_markIntS.f]
    rw [show c + ((0 : Nat) : Int) = c by omega] at hk
    exact hk
theorem spec_l1In_eq (a lo hi : Int) : spec_l1In.f a lo hi = some (decide (lo ≤ a ∧ a ≤ hi)) := by
  unfold spec_l1In.f
  split
  · congr 1; simp; omega
  · congr 1; simp; omega
theorem spec_l1All_l0 (lo hi : Int) (l : List Int) (hn : l.length ≤ 9223372036854775807) : ∀ (ys : List Int) (i : Nat), l.drop i = ys → Ev (fun k => spec_l1All.l0 k lo hi l (l.length : Int) i) (allIn lo hi ys)
  | [], i, h => Ev.next0 fun k => by
      have h0 := drop_nil h
      simp only [spec_l1All.l0, allIn]
      rw [if_neg (by omega)]
  | y :: ys, i, h => by
      obtain ⟨h1, h2, h3⟩ := drop_cons h
      refine Ev.next1 (spec_l1All_l0 lo hi l hn ys (i + 1) h3) fun k hk => ?_
      have e := rd_drop h
      simp only [spec_l1All.l0, e, spec_l1In_eq, Option.bind_some]
      rw [if_pos (by omega), if_pos (by omega), if_pos (by omega), wrap_succ h1 hn]
      by_cases hy : lo ≤ y ∧ y ≤ hi
      · rw [if_pos (decide_eq_true hy), hk]; simp [allIn, hy]
      · rw [if_neg (by simp; omega)]; simp [allIn, hy]
theorem spec_l1All_ev (l : List Int) (lo hi : Int) (hn : l.length ≤ 9223372036854775807) : Ev (fun k => spec_l1All.f k l lo hi) (allIn lo hi l) :=
  Ev.of1 (spec_l1All_l0 lo hi l hn l 0 rfl) fun k hk => by simp only [spec_l1All.f]; exact hk
theorem u64_id {x : Int} (h0 : 0 ≤ x) (h1 : x ≤ 1000) : IntKind.u64.wrap x = x := by
  simp only [IntKind.wrap, IntKind.bits, IntKind.signed, Bool.false_and, Bool.false_eq_true, if_false]; omega
def bitAt (m p : Int) : Bool := (Go.bits .and .i64 (shr .i64 m p) 1) == 1
/-- The row of a number's last n bits. -/
def rowOf (m : Int) : Nat → List Bool
  | 0 => []
  | p + 1 => bitAt m (p : Int) :: rowOf m p
theorem rowOf_length (m : Int) : ∀ n, (rowOf m n).length = n
  | 0 => rfl
  | n + 1 => by simp [rowOf, rowOf_length m n]
theorem spec_dgRow_l0 (m : Int) : ∀ (n : Nat) (acc : List Bool), n ≤ 100 → acc.length + n ≤ 1000 → Ev (fun k => spec_dgRow.l0 k m acc ((n : Int) - 1)) (acc ++ rowOf m n)
  | 0, acc, hn, ha => Ev.next0 fun k => by
      simp only [spec_dgRow.l0, rowOf, List.append_nil]
      rw [if_neg (by omega)]
  | n + 1, acc, hn, ha => by
      refine Ev.next1 (spec_dgRow_l0 m n (acc ++ [bitAt m (n : Int)]) (by omega) (by simp; omega)) fun k hk => ?_
      have e : ((n + 1 : Nat) : Int) - 1 = (n : Int) := by omega
      simp only [spec_dgRow.l0, e]
      rw [if_pos (by omega), u64_id (by omega) (by omega), if_pos (by omega), if_pos (by omega), wrap_id (x := (n : Int) - 1) (by omega) (by omega)]
      rw [List.append_assoc] at hk; exact hk
theorem spec_dgRow_ev (m : Int) (n : Nat) (hn : n ≤ 100) : Ev (fun k => spec_dgRow.f k m (n : Int)) (rowOf m n) :=
  Ev.of1 (spec_dgRow_l0 m n [] hn (by simp; omega)) fun k hk => by
    simp only [spec_dgRow.f]
    rw [wrap_id (by omega) (by omega)]; exact hk
def dugCount : List Bool → Int → Int
  | [], n => n
  | b :: bs, n => dugCount bs (if b = true then n + 1 else n)
theorem spec_dgSum_l0 (l : List Int) (d : List Bool) (hn : l.length ≤ 1000) (hd : d.length = l.length) (hv : allIn (-1000000) 1000000 l = true) : ∀ (bs : List Bool) (ys : List Int) (i : Nat) (a n : Int), d.drop i = bs → l.drop i = ys → -(1000000 * i) ≤ a ∧ a ≤ 1000000 * i → 0 ≤ n ∧ n ≤ i → Ev (fun k => spec_dgSum.l0 k l a n d (d.length : Int) i) (dugSum ys bs a, dugCount bs n)
  | [], ys, i, a, n, h, hb, ha, hc => Ev.next0 fun k => by
      have h0 := drop_nil h
      have h1 : ys = [] := by rw [← hb]; exact List.drop_of_length_le (by omega)
      subst h1
      simp only [spec_dgSum.l0, dugSum, dugCount]
      rw [if_neg (by omega)]
  | b :: bs, [], i, a, n, h, hb, ha, hc => by
      have h1 := (drop_cons h).1
      have h2 := drop_nil hb
      omega
  | b :: bs, y :: ys, i, a, n, h, hb, ha, hc => by
      obtain ⟨h1, h2, h3⟩ := drop_cons h
      obtain ⟨g1, g2, g3⟩ := drop_cons hb
      have hy := allIn_get hv g2
      have e := rd_drop hb
      have e2 := rdOf_drop (d := false) h
      cases b with
      | true =>
        refine Ev.next1 (spec_dgSum_l0 l d hn hd hv bs ys (i + 1) (a + y) (n + 1) h3 g3 (by push_cast; omega) (by push_cast; omega)) fun k hk => ?_
        simp only [spec_dgSum.l0, e, e2, dugSum, dugCount]
        rw [if_pos (by omega), if_pos (by omega), if_pos (by omega), if_pos (by simp), if_pos (by omega), wrap_succ h1 (by omega), wrap_id (x := a + y) (by omega) (by omega), wrap_id (by omega) (by omega), if_pos (by simp), if_pos (by simp)]
        exact hk
      | false =>
        refine Ev.next1 (spec_dgSum_l0 l d hn hd hv bs ys (i + 1) a n h3 g3 (by push_cast; omega) (by push_cast; omega)) fun k hk => ?_
        simp only [spec_dgSum.l0, e, e2, dugSum, dugCount]
        rw [if_pos (by omega), if_pos (by omega), if_pos (by omega), if_neg (by simp), wrap_succ h1 (by omega), if_neg (by simp), if_neg (by simp)]
        exact hk
theorem spec_dgSum_ev (l : List Int) (d : List Bool) (hn : l.length ≤ 1000) (hd : d.length = l.length) (hv : allIn (-1000000) 1000000 l = true) : Ev (fun k => spec_dgSum.f k l d) (dugSum l d 0, dugCount d 0) :=
  Ev.of1 (spec_dgSum_l0 l d hn hd hv d l 0 0 0 rfl rfl (by omega) (by omega)) fun k hk => by simp only [spec_dgSum.f]; exact hk
theorem wrap_nat (n : Nat) (h : n ≤ 1000) : wrap64 (n : Int) = n := wrap_id (by omega) (by omega)
/-- The cut of row y out of a bench of rows of w. -/
theorem row_cut (d : List Bool) (X : Int) (w y : Nat) (hX : X = (w : Int)) (q1 : y * w ≤ 1000) (q2 : y * w + w ≤ 1000) (q3 : y + 1 ≤ 1000) (q4 : y * w + w ≤ d.length) (ho : (y + 1) * w = y * w + w) :
    0 ≤ wrap64 ((y : Int) * X) ∧ wrap64 ((y : Int) * X) ≤ wrap64 (wrap64 ((y : Int) + 1) * X) ∧ wrap64 (wrap64 ((y : Int) + 1) * X) ≤ (d.length : Int) ∧
      (d.take (wrap64 (wrap64 ((y : Int) + 1) * X)).toNat).drop (wrap64 ((y : Int) * X)).toNat = (d.drop (y * w)).take w ∧ wrap64 ((y : Int) + 1) = ((y + 1 : Nat) : Int) := by
  have p1 : (0 : Int) ≤ ((y * w : Nat) : Int) := Int.natCast_nonneg _
  have p2 : ((y * w : Nat) : Int) ≤ ((y * w + w : Nat) : Int) := Int.ofNat_le.2 (Nat.le_add_right _ _)
  have p3 : ((y * w + w : Nat) : Int) ≤ (d.length : Int) := Int.ofNat_le.2 q4
  have e3 : (d.take (((y * w + w : Nat) : Int)).toNat).drop (((y * w : Nat) : Int)).toNat = (d.drop (y * w)).take w := by
    rw [Int.toNat_natCast, Int.toNat_natCast, List.drop_take, Nat.add_sub_cancel_left]
  have p4 := wrap_nat (y * w) q1
  have p5 := wrap_nat (y * w + w) q2
  have p6 := wrap_nat (y + 1) q3
  have p7 : ((y : Int) + 1) = ((y + 1 : Nat) : Int) := (Int.natCast_add y 1).symm
  have e1 : wrap64 ((y : Int) * X) = ((y * w : Nat) : Int) := by
    rw [hX, ← Int.natCast_mul]; exact p4
  have e2 : wrap64 (wrap64 ((y : Int) + 1) * X) = ((y * w + w : Nat) : Int) := by
    rw [p7, p6, hX, ← Int.natCast_mul, ho]; exact p5
  rw [e1, e2]
  refine ⟨p1, p2, p3, e3, ?_⟩
  rw [p7]; exact p6
/-- The lengths of a row's runs of 'true'; n: of the run under way. -/
def runs : List Bool → Int → List Int
  | [], _ => []
  | b :: bs, n => if b = true then (if bs = [] then [n + 1] else runs bs (n + 1)) else (if n > 0 then n :: runs bs 0 else runs bs 0)
theorem runs_pos : ∀ (bs : List Bool) (n : Int), 0 ≤ n → ∀ r ∈ runs bs n, 0 < r
  | [], n, h, r, hr => by cases hr
  | b :: bs, n, h, r, hr => by
    simp only [runs] at hr
    split at hr
    · split at hr
      · simp at hr; omega
      · exact runs_pos bs (n + 1) (by omega) r hr
    · split at hr
      · rcases List.mem_cons.1 hr with rfl | hr
        · omega
        · exact runs_pos bs 0 (by omega) r hr
      · exact runs_pos bs 0 (by omega) r hr
theorem runs_length : ∀ (bs : List Bool) (n : Int), (runs bs n).length ≤ bs.length
  | [], n => Nat.le_refl _
  | b :: bs, n => by
    have a := runs_length bs (n + 1); have c := runs_length bs 0
    simp only [runs]; repeat' split
    all_goals simp <;> omega
theorem spec_dgRuns_l0 (row : List Bool) (hn : row.length ≤ 1048576) : ∀ (bs : List Bool) (j : Nat) (acc : List Int) (n : Int), row.drop j = bs → acc.length ≤ j → 0 ≤ n ∧ n ≤ j →
    Ev (fun k => spec_dgRuns.l0 k row acc n row (row.length : Int) j) (acc ++ runs bs n)
  | [], j, acc, n, h, ha, hm => Ev.next0 fun k => by
      have h0 := drop_nil h
      simp only [spec_dgRuns.l0, runs, List.append_nil]
      rw [if_neg (by omega)]
  | b :: bs, j, acc, n, h, ha, hm => by
      obtain ⟨h1, h2, h3⟩ := drop_cons h
      have e := rdOf_drop (d := false) h
      cases b with
      | true =>
        by_cases hl : bs = []
        · have hj : j + 1 = row.length := by have := drop_nil (hl ▸ h3); omega
          refine Ev.next1 (spec_dgRuns_l0 row hn bs (j + 1) (acc ++ [n + 1]) 0 h3 (by simp; omega) (by omega)) fun k hk => ?_
          simp only [spec_dgRuns.l0, e, runs, if_true, if_pos hl]
          rw [if_pos (by omega), if_pos (by omega), if_pos (by omega), wrap_id (x := n + 1) (by omega) (by omega), wrap_id (x := (row.length : Int) - 1) (by omega) (by omega), if_pos (by omega), if_pos (by omega), if_pos (by omega), wrap_succ h1 (by omega)]
          have e0 : runs bs 0 = [] := by rw [hl]; rfl
          rw [e0, List.append_nil] at hk; exact hk
        · have hj : j + 1 ≠ row.length := fun q => hl (by rw [← h3, List.drop_of_length_le (by omega)])
          refine Ev.next1 (spec_dgRuns_l0 row hn bs (j + 1) acc (n + 1) h3 (by omega) (by omega)) fun k hk => ?_
          simp only [spec_dgRuns.l0, e, runs, if_true, if_neg hl]
          rw [if_pos (by omega), if_pos (by omega), if_pos (by omega), wrap_id (x := n + 1) (by omega) (by omega), wrap_id (x := (row.length : Int) - 1) (by omega) (by omega), if_pos (by omega), if_neg (by omega), wrap_succ h1 (by omega)]
          exact hk
      | false =>
        by_cases hp : n > 0
        · refine Ev.next1 (spec_dgRuns_l0 row hn bs (j + 1) (acc ++ [n]) 0 h3 (by simp; omega) (by omega)) fun k hk => ?_
          simp only [spec_dgRuns.l0, e, runs, Bool.false_eq_true, if_false, if_pos hp]
          rw [if_pos (by omega), if_pos (by omega), if_pos (by omega), if_pos (by omega), wrap_succ h1 (by omega)]
          rw [List.append_assoc] at hk; exact hk
        · obtain rfl : n = 0 := by omega
          refine Ev.next1 (spec_dgRuns_l0 row hn bs (j + 1) acc 0 h3 (by omega) (by omega)) fun k hk => ?_
          simp only [spec_dgRuns.l0, e, runs, Bool.false_eq_true, if_false, if_neg hp]
          rw [if_pos (by omega), if_pos (by omega), if_pos (by omega), wrap_succ h1 (by omega)]
          exact hk
theorem spec_dgRuns_ev (row : List Bool) (hn : row.length ≤ 1048576) : Ev (fun k => spec_dgRuns.f k row) (runs row 0) :=
  Ev.of1 (spec_dgRuns_l0 row hn row 0 [] 0 rfl (by simp) (by omega)) fun k hk => by simp only [spec_dgRuns.f]; exact hk
/-- The smaller of what was found (0: nothing yet) and r. -/
def less (b r : Int) : Int := if b = 0 then r else if r < b then r else b
def lessAll (b : Int) : List Int → Int
  | [] => b
  | r :: rs => lessAll (less b r) rs
def comb (b m : Int) : Int := if m > 0 then less b m else b
theorem lessAll_pos : ∀ (rs : List Int) (b : Int), 0 ≤ b → (∀ r ∈ rs, 0 < r) → 0 ≤ lessAll b rs
  | [], b, hb, _ => hb
  | r :: rs, b, hb, hr => by
    have h1 := hr r (by simp)
    refine lessAll_pos rs (less b r) ?_ (fun x hx => hr x (by simp [hx]))
    unfold less; split; omega; split <;> omega
theorem lessAll_comb : ∀ (rs : List Int) (b : Int), 0 ≤ b → (∀ r ∈ rs, 0 < r) → lessAll b rs = comb b (lessAll 0 rs)
  | [], b, hb, _ => by simp [lessAll, comb]
  | r :: rs, b, hb, hr => by
    have h1 := hr r (by simp)
    have hr' : ∀ x ∈ rs, 0 < x := fun x hx => hr x (by simp [hx])
    have e1 := lessAll_comb rs (less b r) (by unfold less; split; omega; split <;> omega) hr'
    have e2 := lessAll_comb rs (less 0 r) (by unfold less; split; omega; split <;> omega) hr'
    have hp := lessAll_pos rs 0 (by omega) hr'
    simp only [lessAll]
    rw [e1, e2]
    generalize lessAll 0 rs = m at hp
    unfold comb less
    repeat' split
    all_goals omega
def allWide (w : Int) : List Int → Bool
  | [] => true
  | r :: rs => if r < w then false else allWide w rs
theorem spec_dgWide_l0 (w : Int) (I : List Int) (hI : I.length ≤ 1048576) : ∀ (rs : List Int) (j : Nat), I.drop j = rs → Ev (fun k => spec_dgWide.l0 k w I (I.length : Int) j) (allWide w rs)
  | [], j, h => Ev.next0 fun k => by
      have h0 := drop_nil h
      simp only [spec_dgWide.l0, allWide]
      rw [if_neg (by omega)]
  | r :: rs, j, h => by
      obtain ⟨h1, h2, h3⟩ := drop_cons h
      have e := rd_drop h
      refine Ev.next1 (spec_dgWide_l0 w I hI rs (j + 1) h3) fun k hk => ?_
      simp only [spec_dgWide.l0, e, allWide]
      rw [if_pos (by omega), if_pos (by omega), if_pos (by omega), wrap_succ h1 (by omega)]
      by_cases hr : r < w
      · rw [if_pos hr, if_pos hr]
      · rw [if_neg hr, if_neg hr]; exact hk
theorem spec_dgWide_ev (row : List Bool) (w : Int) (hn : row.length ≤ 1048576) : Ev (fun k => spec_dgWide.f k row w) (allWide w (runs row 0)) := by
  have hr := runs_length row 0
  refine (ev_and (spec_dgRuns_ev row hn) <| ev_one (spec_dgWide_l0 w (runs row 0) (by omega) (runs row 0) 0 rfl)).ev fun k ⟨h1, h2⟩ => ?_
  simp only [spec_dgWide.f, h1, Option.bind_some]
  exact h2
/-- The shortest of some runs is wide enough just when all are. -/
theorem allWide_less (w : Int) : ∀ (rs : List Int) (b : Int), 1 ≤ w → 0 < b → (∀ r ∈ rs, 0 < r) → (lessAll b rs ≥ w ↔ (b ≥ w ∧ allWide w rs = true))
  | [], b, hw, hb, _ => by simp [lessAll, allWide]
  | r :: rs, b, hw, hb, hr => by
    have h1 := hr r (by simp)
    have ih := allWide_less w rs (less b r) hw (by unfold less; split; omega; split <;> omega) (fun x hx => hr x (by simp [hx]))
    simp only [lessAll, allWide]
    rw [ih]
    unfold less
    rw [if_neg (by omega)]
    by_cases h2 : r < w
    · rw [if_pos h2]
      constructor
      · intro q; exfalso; have := q.1; split at this <;> omega
      · intro q; cases q.2
    · rw [if_neg h2]
      constructor
      · intro q; refine ⟨?_, q.2⟩; have := q.1; split at this <;> omega
      · intro q; refine ⟨?_, q.2⟩; split <;> omega
theorem wide_less (w : Int) (rs : List Int) (hw : 1 ≤ w) (hr : ∀ r ∈ rs, 0 < r) (hne : rs ≠ []) : (lessAll 0 rs ≥ w ↔ allWide w rs = true) := by
  cases rs with
  | nil => exact absurd rfl hne
  | cons r rs =>
    have h1 := hr r (by simp)
    have := allWide_less w rs r hw h1 (fun x hx => hr x (by simp [hx]))
    simp only [lessAll, allWide]
    rw [show less 0 r = r from if_pos rfl, this]
    by_cases h2 : r < w
    · rw [if_pos h2]; constructor
      · intro q; exfalso; omega
      · intro q; cases q
    · rw [if_neg h2]; constructor
      · intro q; exact q.2
      · intro q; exact ⟨by omega, q⟩
/-- A row without a run is all 'false'. -/
theorem runs_nil : ∀ (bs : List Bool) (n : Int), 0 ≤ n → runs bs n = [] → (n = 0 ∨ bs = []) ∧ ∀ b ∈ bs, b = false
  | [], n, _, _ => ⟨Or.inr rfl, by simp⟩
  | b :: bs, n, hn, h => by
    simp only [runs] at h
    cases b with
    | true =>
      simp only [if_true] at h
      by_cases hb : bs = []
      · rw [if_pos hb] at h; cases h
      · rw [if_neg hb] at h
        have := (runs_nil bs (n + 1) (by omega) h).1
        rcases this with q | q
        · omega
        · exact absurd q hb
    | false =>
      simp only [Bool.false_eq_true, if_false] at h
      by_cases hp : n > 0
      · rw [if_pos hp] at h; cases h
      · rw [if_neg hp] at h
        refine ⟨Or.inl (by omega), fun x hx => ?_⟩
        rcases List.mem_cons.1 hx with rfl | hx
        · rfl
        · exact (runs_nil bs 0 (by omega) h).2 x hx
theorem none_sum : ∀ (bs : List Bool) (l : List Int) (a n : Int), (∀ b ∈ bs, b = false) → dugSum l bs a = a ∧ dugCount bs n = n
  | [], l, a, n, _ => by cases l <;> simp [dugSum, dugCount]
  | b :: bs, [], a, n, h => by
    have h0 := h b (by simp); subst h0
    refine ⟨rfl, ?_⟩
    simp only [dugCount, Bool.false_eq_true, if_false]
    exact (none_sum bs [] a n (fun x hx => h x (by simp [hx]))).2
  | b :: bs, y :: l, a, n, h => by
    have h0 := h b (by simp); subst h0
    simp only [dugSum, dugCount, Bool.false_eq_true, if_false]
    exact none_sum bs l a n (fun x hx => h x (by simp [hx]))
theorem dugSum_bd : ∀ (l : List Int) (bs : List Bool) (a : Int) (i : Nat), allIn (-1000000) 1000000 l = true → -(1000000 * (i : Int)) ≤ a ∧ a ≤ 1000000 * (i : Int) → -(1000000 * ((i : Int) + bs.length)) ≤ dugSum l bs a ∧ dugSum l bs a ≤ 1000000 * ((i : Int) + bs.length)
  | l, [], a, i, h, ha => by cases l <;> (simp only [dugSum, List.length_nil]; omega)
  | [], b :: bs, a, i, h, ha => by simp only [dugSum, List.length_cons]; push_cast; omega
  | y :: l, b :: bs, a, i, h, ha => by
    simp only [allIn, Bool.and_eq_true, decide_eq_true_eq] at h
    have := dugSum_bd l bs (if b = true then a + y else a) (i + 1) h.2 (by split <;> (push_cast; omega))
    simp only [dugSum, List.length_cons]; push_cast at this ⊢; omega
theorem dugCount_bd' : ∀ (bs : List Bool) (n : Int), n ≤ dugCount bs n ∧ dugCount bs n ≤ n + bs.length
  | [], n => by simp [dugCount]
  | b :: bs, n => by
    have h1 := dugCount_bd' bs (n + 1); have h2 := dugCount_bd' bs n
    cases b <;> simp only [dugCount, Bool.false_eq_true, if_true, if_false, List.length_cons] <;> (push_cast; omega)
/-- The better of what was found and the row of number m. -/
def better (l : List Int) (w m : Int) (B : List Bool × Int × Int) : List Bool × Int × Int :=
  if allWide w (runs (rowOf m l.length) 0) = true ∧ (dugSum l (rowOf m l.length) 0 > B.2.1 ∨ (dugSum l (rowOf m l.length) 0 = B.2.1 ∧ dugCount (rowOf m l.length) 0 < B.2.2)) then (rowOf m l.length, dugSum l (rowOf m l.length) 0, dugCount (rowOf m l.length) 0) else B
def bestFrom (l : List Int) (w : Int) : Nat → Int → List Bool × Int × Int → List Bool × Int × Int
  | 0, _, B => B
  | n + 1, m, B => bestFrom l w n (m + 1) (better l w m B)
theorem better_bd {l : List Int} {w m : Int} {B : List Bool × Int × Int} (h : 0 ≤ B.2.1 ∧ 0 ≤ B.2.2 ∧ (B.2.1 = 0 → B.2.2 = 0)) : 0 ≤ (better l w m B).2.1 ∧ 0 ≤ (better l w m B).2.2 ∧ ((better l w m B).2.1 = 0 → (better l w m B).2.2 = 0) := by
  unfold better
  split
  · rename_i q
    have := (dugCount_bd' (rowOf m l.length) 0).1
    rcases q.2 with q | q <;> (simp only; omega)
  · exact h
theorem better_len {l : List Int} {w m : Int} {B : List Bool × Int × Int} (h : B.1.length = l.length) : (better l w m B).1.length = l.length := by
  unfold better
  split
  · exact rowOf_length m l.length
  · exact h
theorem best_len (l : List Int) (w : Int) : ∀ (n : Nat) (m : Int) (B : List Bool × Int × Int), B.1.length = l.length → (bestFrom l w n m B).1.length = l.length
  | 0, _, _, h => h
  | n + 1, m, B, h => best_len l w n (m + 1) _ (better_len h)
def bestRow (l : List Int) (w : Int) : List Bool × Int × Bool :=
  if (1 ≤ l.length ∧ l.length ≤ 8) ∧ allIn (-1000000) 1000000 l = true ∧ (1 ≤ w ∧ w ≤ 8) then ((bestFrom l w (2 ^ l.length - 1) 1 (List.replicate l.length false, 0, 0)).1, (bestFrom l w (2 ^ l.length - 1) 1 (List.replicate l.length false, 0, 0)).2.1, true) else ([], 0, false)
theorem bestRow_len (l : List Int) (w : Int) : (bestRow l w).1.length ≤ 8 := by
  unfold bestRow
  split
  · rename_i h
    have := best_len l w (2 ^ l.length - 1) 1 (List.replicate l.length false, 0, 0) (by simp)
    simp only; omega
  · simp
theorem shl_pow {n : Nat} (h : 1 ≤ n ∧ n ≤ 8) : shl .i64 1 (n : Int) = ((2 ^ n : Nat) : Int) ∧ 2 ≤ 2 ^ n ∧ 2 ^ n ≤ 256 := by
  rcases (by omega : n = 1 ∨ n = 2 ∨ n = 3 ∨ n = 4 ∨ n = 5 ∨ n = 6 ∨ n = 7 ∨ n = 8) with rfl | rfl | rfl | rfl | rfl | rfl | rfl | rfl <;> exact ⟨by decide, by decide, by decide⟩
-- needs: best_model
theorem spec_dgBest_l0 (l : List Int) (w : Int) (hl : 1 ≤ l.length ∧ l.length ≤ 8) (hv : allIn (-1000000) 1000000 l = true) : ∀ (n : Nat) (m : Int) (B : List Bool × Int × Int), 1 ≤ m → m + n = ((2 ^ l.length : Nat) : Int) →
    Ev (fun k => spec_dgBest.l0 k l w B.1 B.2.1 B.2.2 m) ((bestFrom l w n m B).1, (bestFrom l w n m B).2.1)
  | 0, m, B, hm, hn => Ev.next0 fun k => by
      have hp := shl_pow hl
      simp only [spec_dgBest.l0, bestFrom, u64_id (show (0 : Int) ≤ (l.length : Int) by omega) (by omega), hp.1]
      rw [if_pos (by omega), if_neg (by omega)]
  | n + 1, m, B, hm, hn => by
      have hp := shl_pow hl
      have hlen := rowOf_length m l.length
      have i0 := spec_dgBest_l0 l w hl hv n (m + 1) (better l w m B) (by omega) (by omega)
      refine (ev_and (spec_dgRow_ev m l.length (by omega)) <| ev_and (spec_dgSum_ev l (rowOf m l.length) (by omega) hlen hv) <| ev_and (spec_dgWide_ev (rowOf m l.length) w (by omega)) <| ev_one i0).next fun k ⟨h1, h2, h3, h4⟩ => ?_
      simp only [spec_dgBest.l0, u64_id (show (0 : Int) ≤ (l.length : Int) by omega) (by omega), hp.1, h1, h2, h3, Option.bind_some, bestFrom]
      rw [if_pos (by omega), if_pos (by omega), wrap_id (x := m + 1) (by omega) (by omega)]
      refine Eq.trans ?_ h4
      unfold better
      generalize dugSum l (rowOf m l.length) 0 = S
      generalize dugCount (rowOf m l.length) 0 = C
      by_cases hw : allWide w (runs (rowOf m l.length) 0) = true
      · rw [if_pos hw]
        by_cases hs : S > B.2.1
        · rw [if_pos hs, if_pos ⟨hw, Or.inl hs⟩]
        · rw [if_neg hs]
          by_cases he : S = B.2.1
          · rw [if_pos he]
            by_cases hc : C < B.2.2
            · rw [if_pos hc, if_pos ⟨hw, Or.inr ⟨he, hc⟩⟩]
            · rw [if_neg hc, if_neg (fun q => by rcases q.2 with q | q; exact hs q; exact hc q.2)]
          · rw [if_neg he, if_neg (fun q => by rcases q.2 with q | q; exact hs q; exact he q.1)]
      · rw [if_neg hw, if_neg (fun q => hw q.1)]
theorem spec_dgBest_ev (l : List Int) (w : Int) (hl : 1 ≤ l.length ∧ l.length ≤ 8) (hv : allIn (-1000000) 1000000 l = true) : Ev (fun k => spec_dgBest.f k l w) ((bestFrom l w (2 ^ l.length - 1) 1 (List.replicate l.length false, 0, 0)).1, (bestFrom l w (2 ^ l.length - 1) 1 (List.replicate l.length false, 0, 0)).2.1) := by
  have hp := shl_pow hl
  refine Ev.of1 (spec_dgBest_l0 l w hl hv (2 ^ l.length - 1) 1 (List.replicate l.length false, 0, 0) (by omega) (by omega)) fun k hk => ?_
  simp only [spec_dgBest.f]
  rw [if_pos (by omega), if_pos (by omega), toNat_cast]
  exact hk
theorem spec_BestRow_ev (l : List Int) (w : Int) (hn : l.length ≤ 1048576) : Ev (fun k => spec_BestRow.f k l w) (bestRow l w) := by
  by_cases h1 : 1 ≤ l.length ∧ l.length ≤ 8
  · by_cases h2 : allIn (-1000000) 1000000 l = true
    · by_cases h3 : 1 ≤ w ∧ w ≤ 8
      · refine (ev_and (spec_l1All_ev l (-1000000) 1000000 (by omega)) <| ev_one (spec_dgBest_ev l w h1 h2)).ev fun k ⟨g1, g2⟩ => ?_
        simp only [spec_BestRow.f, spec_l1In_eq, g1, g2, Option.bind_some]
        rw [if_pos (by simp; omega), if_pos h2, if_pos (by simpa using h3), bestRow, if_pos ⟨h1, h2, h3⟩]
      · refine (ev_one (spec_l1All_ev l (-1000000) 1000000 (by omega))).ev fun k g1 => ?_
        simp only [spec_BestRow.f, spec_l1In_eq, g1, Option.bind_some]
        rw [if_pos (by simp; omega), if_pos h2, if_neg (by simpa using h3), bestRow, if_neg (fun q => h3 q.2.2)]
    · refine (ev_one (spec_l1All_ev l (-1000000) 1000000 (by omega))).ev fun k g1 => ?_
      simp only [spec_BestRow.f, spec_l1In_eq, g1, Option.bind_some]
      rw [if_pos (by simp; omega), if_neg h2, bestRow, if_neg (fun q => h2 q.2.1)]
  · refine Ev.all fun k => ?_
    simp only [spec_BestRow.f, spec_l1In_eq, Option.bind_some]
    rw [if_neg (by simp; omega), bestRow, if_neg (fun q => h1 q.1)]
theorem laws_toIntS_l0 (l : List Int) (hn : l.length ≤ 9223372036854775807) : ∀ (ys : List Int) (i : Nat) (x : List Int), l.drop i = ys → x.length = l.length → x.take i = l.take i → Ev (fun k => laws_toIntS.l0 k l x i) l
  | [], i, x, h, hl, ht => Ev.next0 fun k => by
      have h0 := drop_nil h
      have h1 : l.length = l.length := by simp
      simp only [laws_toIntS.l0]
      rw [if_neg (by omega), copy_end hl ht (by omega)]
  | y :: ys, i, x, h, hl, ht => by
      obtain ⟨h1, h2, h3⟩ := drop_cons h
      have hm : l.length = l.length := by simp
      have hg : l[i]? = some y := by simp [h2]
      obtain ⟨c1, c2⟩ := copy_step hg hl ht
      refine Ev.next1 (laws_toIntS_l0 l hn ys (i + 1) (x.set i y) h3 c1 c2) fun k hk => ?_
      have e := rd_drop h
      simp only [laws_toIntS.l0, e, Option.bind_some]
      rw [if_pos (by omega), if_pos (by omega), if_pos (by omega), wrap_succ h1 hn, toNat_cast]
      exact hk
theorem laws_toIntS_ev (l : List Int) (hn : l.length ≤ 35184372088832) : Ev (fun k => laws_toIntS.f k l) l :=
  Ev.of1 (laws_toIntS_l0 l (by omega) l 0 (List.replicate ((l.length : Int)).toNat 0) rfl (by simp) rfl) fun k hk => by
    simp only [laws_toIntS.f]
    rw [if_pos (by omega), if_pos (by omega)]
    exact hk
theorem impl_goodValues_l0 (l : List Int) (hn : l.length ≤ 9223372036854775807) : ∀ (ys : List Int) (i : Nat), l.drop i = ys → Ev (fun k => impl_goodValues.l0 k l (l.length : Int) i) (allIn (-1000000) 1000000 ys)
  | [], i, h => Ev.next0 fun k => by
      have h0 := drop_nil h
      simp only [impl_goodValues.l0, allIn]
      rw [if_neg (by omega)]
  | y :: ys, i, h => by
      obtain ⟨h1, h2, h3⟩ := drop_cons h
      refine Ev.next1 (impl_goodValues_l0 l hn ys (i + 1) h3) fun k hk => ?_
      have e := rd_drop h
      simp only [impl_goodValues.l0, e]
      rw [if_pos (by omega), if_pos (by omega), if_pos (by omega), wrap_succ h1 hn]
      by_cases hy : -1000000 ≤ y
      · rw [if_neg (by omega)]
        by_cases hz : y ≤ 1000000
        · rw [if_neg (by omega), hk]; simp [allIn, hy, hz]
        · rw [if_pos (by omega)]; simp [allIn, hz]
      · rw [if_pos (by omega)]; simp [allIn, hy]
theorem impl_goodValues_ev (l : List Int) (hn : l.length ≤ 9223372036854775807) : Ev (fun k => impl_goodValues.f k l) (decide (1 ≤ l.length ∧ l.length ≤ 120) && allIn (-1000000) 1000000 l) := by
  by_cases h : 1 ≤ l.length ∧ l.length ≤ 120
  · have h1 : Ev (fun k => impl_goodValues.j0 k l false) (allIn (-1000000) 1000000 l) := Ev.next1 (impl_goodValues_l0 l hn l 0 rfl) fun k hk => by
      simp only [impl_goodValues.j0]; rw [if_neg (by simp)]; exact hk
    refine Ev.of1 h1 fun k hk => ?_
    have e : decide ((l.length : Int) > 120) = false := by simp; omega
    simp only [impl_goodValues.f]
    rw [if_neg (by omega), e, hk]; simp [h]
  · have h1 : Ev (fun k => impl_goodValues.j0 k l true) false := Ev.next0 fun k => by simp [impl_goodValues.j0]
    refine Ev.of1 h1 fun k hk => ?_
    simp only [impl_goodValues.f]
    by_cases h2 : l.length < 1
    · rw [if_pos (by omega), hk]; simp; omega
    · have e : decide ((l.length : Int) > 120) = true := by simp; omega
      rw [if_neg (by omega), e, hk]; simp; omega
-- needs: spec_dgRuns
theorem impl_shortestRun_j2t (row : List Bool) (x3 x4 : Int) (j : Nat) (r : Int) (hj : j < row.length) (hn : row.length ≤ 1048576) (h : Ev (fun k => impl_shortestRun.l0 k row (less x3 x4) 0 row (row.length : Int) ((j + 1 : Nat) : Int)) r) :
    Ev (fun k => impl_shortestRun.j2 k row x3 x4 row (row.length : Int) j true) r :=
  Ev.next1 h fun k hk => by
    simp only [impl_shortestRun.j2, if_true]
    rw [wrap_succ hj (by omega)]
    unfold less at hk
    by_cases h0 : x3 = 0
    · rw [if_pos h0] at hk ⊢; exact hk
    · rw [if_neg h0] at hk ⊢
      by_cases h4 : x4 < x3
      · rw [if_pos h4] at hk ⊢; exact hk
      · rw [if_neg h4] at hk ⊢; exact hk
theorem impl_shortestRun_j2f (row : List Bool) (x3 x4 : Int) (j : Nat) (r : Int) (hj : j < row.length) (hn : row.length ≤ 1048576) (h : Ev (fun k => impl_shortestRun.l0 k row x3 x4 row (row.length : Int) ((j + 1 : Nat) : Int)) r) :
    Ev (fun k => impl_shortestRun.j2 k row x3 x4 row (row.length : Int) j false) r :=
  Ev.next1 h fun k hk => by
    simp only [impl_shortestRun.j2, Bool.false_eq_true, if_false]
    rw [wrap_succ hj (by omega)]
    exact hk
theorem impl_shortestRun_l0 (row : List Bool) (hn : row.length ≤ 1048576) : ∀ (bs : List Bool) (j : Nat) (b n : Int), row.drop j = bs → 0 ≤ n ∧ n ≤ j →
    Ev (fun k => impl_shortestRun.l0 k row b n row (row.length : Int) j) (lessAll b (runs bs n))
  | [], j, b, n, h, hm => Ev.next0 fun k => by
      have h0 := drop_nil h
      simp only [impl_shortestRun.l0, runs, lessAll]
      rw [if_neg (by omega)]
  | c :: bs, j, b, n, h, hm => by
      obtain ⟨h1, h2, h3⟩ := drop_cons h
      have e := rdOf_drop (d := false) h
      cases c with
      | true =>
        by_cases hl : bs = []
        · have hj : j + 1 = row.length := by have := drop_nil (hl ▸ h3); omega
          have i0 := impl_shortestRun_l0 row hn bs (j + 1) (less b (n + 1)) 0 h3 (by omega)
          have i1 := impl_shortestRun_j2t row b (n + 1) j _ h1 hn i0
          have i2 : Ev (fun k => impl_shortestRun.j1 k row b (n + 1) j true row (row.length : Int) j) (lessAll (less b (n + 1)) (runs bs 0)) :=
            Ev.next1 i1 fun k hk => by
              simp only [impl_shortestRun.j1]
              rw [if_pos (by omega), if_pos trivial, wrap_id (x := (row.length : Int) - 1) (by omega) (by omega), show (((j : Int)) == (row.length : Int) - 1) = true by simp; omega]
              exact hk
          refine Ev.next1 i2 fun k hk => ?_
          simp only [impl_shortestRun.l0, e, runs, if_true, if_pos hl]
          rw [if_pos (by omega), if_pos (by omega), if_pos (by omega), wrap_id (x := n + 1) (by omega) (by omega)]
          have e0 : runs bs 0 = [] := by rw [hl]; rfl
          rw [e0] at hk; exact hk
        · have hj : j + 1 ≠ row.length := fun q => hl (by rw [← h3, List.drop_of_length_le (by omega)])
          have i0 := impl_shortestRun_l0 row hn bs (j + 1) b (n + 1) h3 (by omega)
          have i1 := impl_shortestRun_j2f row b (n + 1) j _ h1 hn i0
          have i2 : Ev (fun k => impl_shortestRun.j1 k row b (n + 1) j true row (row.length : Int) j) (lessAll b (runs bs (n + 1))) :=
            Ev.next1 i1 fun k hk => by
              simp only [impl_shortestRun.j1]
              rw [if_pos (by omega), if_pos trivial, wrap_id (x := (row.length : Int) - 1) (by omega) (by omega), show (((j : Int)) == (row.length : Int) - 1) = false by simp; omega]
              exact hk
          refine Ev.next1 i2 fun k hk => ?_
          simp only [impl_shortestRun.l0, e, runs, if_true, if_neg hl]
          rw [if_pos (by omega), if_pos (by omega), if_pos (by omega), wrap_id (x := n + 1) (by omega) (by omega)]
          exact hk
      | false =>
        by_cases hp : n > 0
        · have i0 := impl_shortestRun_l0 row hn bs (j + 1) (less b n) 0 h3 (by omega)
          have i1 := impl_shortestRun_j2t row b n j _ h1 hn i0
          have i2 : Ev (fun k => impl_shortestRun.j1 k row b n j false row (row.length : Int) j) (lessAll (less b n) (runs bs 0)) :=
            Ev.next1 i1 fun k hk => by
              simp only [impl_shortestRun.j1]
              rw [if_pos (by omega), if_neg (by simp)]
              exact hk
          refine Ev.next1 i2 fun k hk => ?_
          simp only [impl_shortestRun.l0, e, runs, Bool.false_eq_true, if_false, if_pos hp, lessAll]
          rw [if_pos (by omega), if_pos (by omega), if_pos (by omega)]
          exact hk
        · obtain rfl : n = 0 := by omega
          have i0 := impl_shortestRun_l0 row hn bs (j + 1) b 0 h3 (by omega)
          have i1 := impl_shortestRun_j2f row b 0 j _ h1 hn i0
          have i2 : Ev (fun k => impl_shortestRun.j1 k row b 0 j false row (row.length : Int) j) (lessAll b (runs bs 0)) :=
            Ev.next1 i1 fun k hk => by
              simp only [impl_shortestRun.j1]
              rw [if_neg (by omega)]
              exact hk
          refine Ev.next1 i2 fun k hk => ?_
          simp only [impl_shortestRun.l0, e, runs, Bool.false_eq_true, if_false, if_neg hp]
          rw [if_pos (by omega), if_pos (by omega), if_pos (by omega)]
          exact hk
theorem impl_shortestRun_ev (row : List Bool) (hn : row.length ≤ 1048576) : Ev (fun k => impl_shortestRun.f k row) (lessAll 0 (runs row 0)) :=
  Ev.of1 (impl_shortestRun_l0 row hn row 0 0 0 rfl (by omega)) fun k hk => by simp only [impl_shortestRun.f]; exact hk
-- needs: best_model impl_shortestRun
/-- The end of a round: the row is weighed. -/
theorem impl_bestRow_weigh (l : List Int) (w m : Int) (n : Int) (B : List Bool × Int × Int) (hw : 1 ≤ w) (hl : l.length ≤ 8) (hB : 0 ≤ B.2.1 ∧ 0 ≤ B.2.2 ∧ (B.2.1 = 0 → B.2.2 = 0)) (hm : 1 ≤ m ∧ m ≤ 1000) (r : List Bool × Int) (h : Ev (fun k => impl_bestRow.l0 k l w n (better l w m B).1 (better l w m B).2.1 (better l w m B).2.2 (m + 1)) r) :
    Ev (fun k => impl_bestRow.l1 k l w n B.1 B.2.1 B.2.2 m (rowOf m l.length) (dugSum l (rowOf m l.length) 0) (dugCount (rowOf m l.length) 0) (l.length : Int) (l.length : Int)) r := by
  have hlen := rowOf_length m l.length
  refine (ev_and (impl_shortestRun_ev (rowOf m l.length) (by omega)) <| ev_one h).next fun k ⟨h1, h2⟩ => ?_
  simp only [impl_bestRow.l1]
  rw [if_neg (by omega), h1, Option.bind_some, wrap_id (x := m + 1) (by omega) (by omega)]
  refine Eq.trans ?_ h2
  have hp := runs_pos (rowOf m l.length) 0 (by omega)
  unfold better
  by_cases he : runs (rowOf m l.length) 0 = []
  · obtain ⟨e1, e2⟩ := none_sum (rowOf m l.length) l 0 0 (runs_nil _ 0 (by omega) he).2
    rw [e1, e2, he, if_neg (show ¬ lessAll 0 [] ≥ w by simp [lessAll]; omega), if_neg (fun q => by rcases q.2 with q | q <;> omega)]
  · have hq := wide_less w _ hw hp he
    generalize dugSum l (rowOf m l.length) 0 = S
    generalize dugCount (rowOf m l.length) 0 = C
    by_cases hw : allWide w (runs (rowOf m l.length) 0) = true
    · rw [if_pos (hq.2 hw)]
      by_cases hs : S > B.2.1
      · rw [if_pos hs, if_pos ⟨hw, Or.inl hs⟩]
      · rw [if_neg hs]
        by_cases he : S = B.2.1
        · rw [if_pos he]
          by_cases hc : C < B.2.2
          · rw [if_pos hc, if_pos ⟨hw, Or.inr ⟨he, hc⟩⟩]
          · rw [if_neg hc, if_neg (fun q => by rcases q.2 with q | q; exact hs q; exact hc q.2)]
        · rw [if_neg he, if_neg (fun q => by rcases q.2 with q | q; exact hs q; exact he q.1)]
    · rw [if_neg (fun q => hw (hq.1 q)), if_neg (fun q => hw q.1)]
/-- A row's bits, written one by one: p bits are still to come; pre: those that stand. -/
theorem impl_bestRow_l1 (l : List Int) (w m : Int) (B : List Bool × Int × Int) (hl : l.length ≤ 8) (hv : allIn (-1000000) 1000000 l = true) (r : List Bool × Int)
    (hr : Ev (fun k => impl_bestRow.l1 k l w (l.length : Int) B.1 B.2.1 B.2.2 m (rowOf m l.length) (dugSum l (rowOf m l.length) 0) (dugCount (rowOf m l.length) 0) (l.length : Int) (l.length : Int)) r) :
    ∀ (p j : Nat) (pre : List Bool) (ys : List Int) (S C : Int), j + p = l.length → pre.length = j → l.drop j = ys → pre ++ rowOf m p = rowOf m l.length → dugSum ys (rowOf m p) S = dugSum l (rowOf m l.length) 0 → dugCount (rowOf m p) C = dugCount (rowOf m l.length) 0 →
      (-(1000000 * (j : Int)) ≤ S ∧ S ≤ 1000000 * (j : Int)) → (0 ≤ C ∧ C ≤ j) →
      Ev (fun k => impl_bestRow.l1 k l w (l.length : Int) B.1 B.2.1 B.2.2 m (pre ++ List.replicate p false) S C (l.length : Int) j) r
  | 0, j, pre, ys, S, C, hj, hp, hy, h1, h2, h3, hS, hC => by
      have e1 : pre ++ List.replicate 0 false = rowOf m l.length := by simpa [rowOf] using h1
      have e2 : S = dugSum l (rowOf m l.length) 0 := by rw [← h2]; cases ys <;> rfl
      have e3 : C = dugCount (rowOf m l.length) 0 := h3
      rw [e1, e2, e3, show j = l.length by omega]
      exact hr
  | p + 1, j, pre, [], S, C, hj, hp, hy, h1, h2, h3, hS, hC => by
      have := drop_nil hy; omega
  | p + 1, j, pre, y :: ys, S, C, hj, hp, hy, h1, h2, h3, hS, hC => by
      obtain ⟨d1, d2, d3⟩ := drop_cons hy
      have hyb := allIn_get hv d2
      have e := rd_drop hy
      have hb : rowOf m (p + 1) = bitAt m (p : Int) :: rowOf m p := rfl
      rw [hb] at h1 h2 h3
      have eset : (pre ++ List.replicate (p + 1) false).set j (bitAt m (p : Int)) = (pre ++ [bitAt m (p : Int)]) ++ List.replicate p false := by
        rw [List.replicate_succ, List.set_append_right _ _ (by omega), hp, Nat.sub_self, List.append_assoc]; rfl
      have erd : rdOf false ((pre ++ [bitAt m (p : Int)]) ++ List.replicate p false) (j : Int) = bitAt m (p : Int) := rdOf_get (by
        rw [List.append_assoc, ← hp, List.getElem?_append_right (Nat.le_refl _), Nat.sub_self]; rfl)
      have ep : wrap64 (wrap64 ((l.length : Int) - 1) - (j : Int)) = (p : Int) := by
        rw [wrap_id (x := (l.length : Int) - 1) (by omega) (by omega), wrap_id (by omega) (by omega)]; omega
      have ih := impl_bestRow_l1 l w m B hl hv r hr p (j + 1) (pre ++ [bitAt m (p : Int)]) ys (if bitAt m (p : Int) = true then S + y else S) (if bitAt m (p : Int) = true then C + 1 else C) (by omega) (by simp [hp]) d3 (by rw [List.append_assoc]; exact h1) h2 h3 (by split <;> (push_cast; omega)) (by split <;> (push_cast; omega))
      refine Ev.next1 ih fun k hk => ?_
      have ebit : ((Go.bits .and .i64 (shr .i64 m (p : Int)) 1) == 1) = bitAt m (p : Int) := rfl
      simp only [impl_bestRow.l1, ep, ebit, toNat_cast, eset, erd, e, Option.bind_some]
      rw [if_pos (by omega), if_pos (by omega), if_pos (by omega), if_pos (by simp; omega), wrap_succ d1 (by omega)]
      by_cases hq : bitAt m (p : Int) = true
      · rw [if_pos hq, if_pos (by omega), wrap_id (x := S + y) (by omega) (by omega), wrap_id (x := C + 1) (by omega) (by omega)]
        rw [if_pos hq, if_pos hq] at hk; exact hk
      · rw [if_neg hq]
        rw [if_neg hq, if_neg hq] at hk; exact hk
theorem impl_bestRow_l0 (l : List Int) (w : Int) (hw : 1 ≤ w) (hl : 1 ≤ l.length ∧ l.length ≤ 8) (hv : allIn (-1000000) 1000000 l = true) : ∀ (n : Nat) (m : Int) (B : List Bool × Int × Int), 1 ≤ m → m + n = ((2 ^ l.length : Nat) : Int) → 0 ≤ B.2.1 ∧ 0 ≤ B.2.2 ∧ (B.2.1 = 0 → B.2.2 = 0) →
    Ev (fun k => impl_bestRow.l0 k l w (l.length : Int) B.1 B.2.1 B.2.2 m) ((bestFrom l w n m B).1, (bestFrom l w n m B).2.1)
  | 0, m, B, hm, hn, hB => Ev.next0 fun k => by
      have hp := shl_pow hl
      simp only [impl_bestRow.l0, bestFrom, hp.1]
      rw [if_pos (by omega), if_neg (by omega)]
  | n + 1, m, B, hm, hn, hB => by
      have hp := shl_pow hl
      have i0 := impl_bestRow_l0 l w hw hl hv n (m + 1) (better l w m B) (by omega) (by omega) (better_bd hB)
      have i1 := impl_bestRow_weigh l w m (l.length : Int) B hw hl.2 hB (by omega) _ i0
      have i2 := impl_bestRow_l1 l w m B hl.2 hv _ i1 l.length 0 [] l 0 0 (by omega) rfl rfl rfl rfl rfl (by omega) (by omega)
      refine Ev.next1 i2 fun k hk => ?_
      simp only [impl_bestRow.l0, hp.1, bestFrom, Option.bind_some]
      rw [if_pos (by omega), if_pos (by omega), if_pos (by omega), toNat_cast, List.length_replicate]
      exact hk
theorem impl_bestRow_ev (l : List Int) (w : Int) (hw : 1 ≤ w) (hl : 1 ≤ l.length ∧ l.length ≤ 8) (hv : allIn (-1000000) 1000000 l = true) : Ev (fun k => impl_bestRow.f k l w) ((bestFrom l w (2 ^ l.length - 1) 1 (List.replicate l.length false, 0, 0)).1, (bestFrom l w (2 ^ l.length - 1) 1 (List.replicate l.length false, 0, 0)).2.1) := by
  have hp := shl_pow hl
  refine Ev.of1 (impl_bestRow_l0 l w hw hl hv (2 ^ l.length - 1) 1 (List.replicate l.length false, 0, 0) (by omega) (by omega) (by simp)) fun k hk => ?_
  simp only [impl_bestRow.f]
  rw [if_pos (by omega), if_pos (by omega), toNat_cast]
  exact hk
theorem impl_BestRow_ev (l : List Int) (w : Int) (hn : l.length ≤ 1048576) : Ev (fun k => impl_BestRow.f k l w) (bestRow l w) := by
  by_cases h0 : (l.length : Int) > 8
  · refine Ev.all fun k => ?_
    simp only [impl_BestRow.f]
    rw [if_pos h0, bestRow, if_neg (fun q => by omega)]
  · have hg := impl_goodValues_ev l (by omega)
    by_cases h1 : 1 ≤ l.length ∧ allIn (-1000000) 1000000 l = true
    · have e1 : (decide (1 ≤ l.length ∧ l.length ≤ 120) && allIn (-1000000) 1000000 l) = true := by simp [h1]; omega
      rw [e1] at hg
      by_cases h3 : 1 ≤ w ∧ w ≤ 8
      · refine (ev_and hg <| ev_one (impl_bestRow_ev l w h3.1 ⟨h1.1, by omega⟩ h1.2)).ev fun k ⟨g1, g2⟩ => ?_
        simp only [impl_BestRow.f, g1, g2, Option.bind_some]
        rw [if_neg h0, if_pos trivial, if_neg (by omega), if_neg (by omega), bestRow, if_pos ⟨⟨h1.1, by omega⟩, h1.2, h3⟩]
      · refine (ev_one hg).ev fun k g1 => ?_
        simp only [impl_BestRow.f, g1, Option.bind_some]
        have e2 : ¬ ((1 ≤ l.length ∧ l.length ≤ 8) ∧ allIn (-1000000) 1000000 l = true ∧ (1 ≤ w ∧ w ≤ 8)) := fun q => h3 q.2.2
        rw [if_neg h0, if_pos trivial, bestRow]
        by_cases h4 : w < 1
        · rw [if_pos h4, if_neg e2]
        · rw [if_neg h4, if_pos (by omega), if_neg e2]
    · have e1 : (decide (1 ≤ l.length ∧ l.length ≤ 120) && allIn (-1000000) 1000000 l) = false := by
        cases hq : (decide (1 ≤ l.length ∧ l.length ≤ 120) && allIn (-1000000) 1000000 l)
        · rfl
        · simp only [Bool.and_eq_true, decide_eq_true_eq] at hq; exact absurd ⟨hq.1.1, hq.2⟩ h1
      rw [e1] at hg
      refine (ev_one hg).ev fun k g1 => ?_
      simp only [impl_BestRow.f, g1, Option.bind_some]
      rw [if_neg h0, if_neg (by simp), bestRow, if_neg (fun q => h1 ⟨q.1.1, q.2.1⟩)]
theorem laws_markBoolS_l0 (n : Nat) (c : Int) (hc : 0 ≤ c) (hb : c + n ≤ 9223372036854775807) : ∀ (d i : Nat) (x : List Bool), i + d = n → x.length = n → x.take i = (markB n c).take i → Ev (fun k => laws_markBoolS.l0 k x (c + (i : Int)) i) (c + (n : Int), markB n c)
  | 0, i, x, hd, hl, ht => Ev.next0 fun k => by
      simp only [laws_markBoolS.l0]
      rw [if_neg (by omega), copy_end (by rw [hl, markB_length]) ht (by rw [markB_length]; omega), show i = n by omega]
  | d + 1, i, x, hd, hl, ht => by
      obtain ⟨c1, c2⟩ := copy_step (markB_get n c i (by omega)) (by rw [hl, markB_length]) ht
      refine Ev.next1 (laws_markBoolS_l0 n c hc hb d (i + 1) _ (by omega) (by rw [c1, markB_length]) c2) fun k hk => ?_
      simp only [laws_markBoolS.l0]
      rw [if_pos (by omega), if_pos (by omega), wrap_succ (n := n) (by omega) (by omega), wrap_id (by omega) (by omega), toNat_cast, show c + (i : Int) + 1 = c + ((i + 1 : Nat) : Int) by push_cast; omega]
      exact hk
theorem laws_markBoolS_ev (x : List Bool) (c : Int) (hc : 0 ≤ c) (hb : c + x.length ≤ 9223372036854775807) : Ev (fun k => laws_markBoolS.f k x c) (c + (x.length : Int), markB x.length c) :=
  Ev.of1 (laws_markBoolS_l0 x.length c hc hb x.length 0 x (by omega) rfl rfl) fun k hk => by
    simp only [laws_markBoolS.f]
    rw [show c + ((0 : Nat) : Int) = c by omega] at hk
    exact hk
theorem laws_heldBoolS_l0 (n : Nat) (c : Int) (hc : 0 ≤ c) (hb : c + n ≤ 9223372036854775807) : ∀ (d i : Nat), i + d = n → Ev (fun k => laws_heldBoolS.l0 k (markB n c) (c + (i : Int)) i) (c + (n : Int))
  | 0, i, hd => Ev.next0 fun k => by
      simp only [laws_heldBoolS.l0]
      rw [if_neg (by rw [markB_length]; omega), show i = n by omega]
  | d + 1, i, hd => by
      refine Ev.next1 (laws_heldBoolS_l0 n c hc hb d (i + 1) (by omega)) fun k hk => ?_
      have e := rdOf_get (d := false) (markB_get n c i (by omega))
      simp only [laws_heldBoolS.l0, e]
      rw [if_pos (by rw [markB_length]; omega), if_pos (by omega), if_neg (by simp), wrap_succ (n := n) (by omega) (by omega), wrap_id (by omega) (by omega), show c + (i : Int) + 1 = c + ((i + 1 : Nat) : Int) by push_cast; omega]
      exact hk
theorem laws_heldBoolS_ev (n : Nat) (c : Int) (hc : 0 ≤ c) (hb : c + n ≤ 9223372036854775807) : Ev (fun k => laws_heldBoolS.f k (markB n c) c) (c + (n : Int)) :=
  Ev.of1 (laws_heldBoolS_l0 n c hc hb n 0 (by omega)) fun k hk => by
    simp only [laws_heldBoolS.f]
    rw [show c + ((0 : Nat) : Int) = c by omega] at hk
    exact hk
theorem j2_ev (n : Nat) (hn : n ≤ 1048576) : Ev (fun k => laws_FnExactBestRow.j2 k (markB n 1) (1 + (n : Int)) false) true :=
  (ev_one (laws_heldBoolS_ev n 1 (by omega) (by omega))).next fun k h1 => by
    simp only [laws_FnExactBestRow.j2, h1, Option.bind_some]
    rw [if_neg (by simp), if_neg (by omega), if_pos (by simp)]
theorem j1_ev (l : List Int) (w : Int) (hn : l.length ≤ 1048576) : Ev (fun k => laws_FnExactBestRow.j1 k l w (bestRow l w).1 (bestRow l w).2.1 (bestRow l w).2.2 (bestRow l w).1 false) true := by
  have hw := bestRow_len l w
  refine (ev_and (laws_markBoolS_ev (bestRow l w).1 1 (by omega) (by omega)) <| ev_and (laws_heldBoolS_ev (bestRow l w).1.length 1 (by omega) (by omega)) <| ev_and (laws_toIntS_ev l (by omega)) <| ev_and (impl_BestRow_ev l w hn) <| ev_and (laws_eqBoolS_ev (bestRow l w).1 (by omega)) <| ev_one (j2_ev (bestRow l w).1.length (by omega))).next fun k ⟨h1, h2, h3, h4, h5, h6⟩ => ?_
  simp only [laws_FnExactBestRow.j1, h1, h2, h3, h4, h5, Option.bind_some]
  rw [if_neg (by simp), if_neg (by omega), if_pos (by simp), if_pos (by simp), if_pos (by simp), bne_self_eq_false, h6]
theorem j0_ev (l : List Int) (w : Int) (hn : l.length ≤ 1048576) : Ev (fun k => laws_FnExactBestRow.j0 k l w (bestRow l w).1 (bestRow l w).2.1 (bestRow l w).2.2 l (bestRow l w).1 (bestRow l w).2.1 (bestRow l w).2.2 false) true := by
  have hw := bestRow_len l w
  refine (ev_and (laws_toIntS_ev l (by omega)) <| ev_and (laws_eqIntS_ev l (by omega)) <| ev_and (laws_markIntS_ev l 1 (by omega) (by omega)) <| ev_and (laws_eqBoolS_ev (bestRow l w).1 (by omega)) <| ev_one (j1_ev l w hn)).next fun k ⟨h1, h2, h3, h4, h5⟩ => ?_
  simp only [laws_FnExactBestRow.j0, h1, h2, h3, h4, Option.bind_some]
  rw [if_neg (by simp), if_pos (by simp), if_neg (by omega), if_pos (by simp), if_pos (by simp), bne_self_eq_false, h5]
theorem FnExactBestRow : Stat.FnExactBestRow := by
  intro l w hl _
  refine Ev.rounds ?_
  by_cases hg : (l.length : Int) > 1048576
  · exact Ev.all fun k => by simp only [laws_FnExactBestRow.f]; rw [if_pos hg]
  · have hn : l.length ≤ 1048576 := by omega
    have hw := bestRow_len l w
    refine (ev_and (laws_toIntS_ev l (by omega)) <| ev_and (j0_ev l w hn) <| ev_and (spec_BestRow_ev l w hn) <| ev_and (laws_eqBoolS_ev (bestRow l w).1 (by omega)) <| ev_one (impl_BestRow_ev l w hn)).ev fun k ⟨h1, h2, h3, h4, h5⟩ => ?_
    simp only [laws_FnExactBestRow.f, h1, h3, h4, h5, Option.bind_some]
    rw [if_neg hg, if_pos (by simp), if_pos (by simp), bne_self_eq_false, h2]
end Go.Proofs.Ytoaglacdklmafaa.PureFnExactBestRow
namespace Go.Proofs.Ytoaglacdklmafaa.Pure
theorem FnExactBestRow : Stat.FnExactBestRow := PureFnExactBestRow.FnExactBestRow
end Go.Proofs.Ytoaglacdklmafaa.Pure
