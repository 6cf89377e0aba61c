/- The law FnExactChangedBlocks over numbers and lists: it is true of every input. -/
import Derived.Test.YtoaglacdklmafaaStatFnExactChangedBlocks
import Derived.Test.YtoaglacdklmafaaWMore
set_option linter.unusedVariables false
set_option linter.unusedSimpArgs false
namespace Go.Proofs.Ytoaglacdklmafaa.Kit
open Go.RowKit Go.Proofs.YtoaglacdklmafaaW.PrintWords Go.Proofs.YtoaglacdklmafaaW.PrintMore

/-! ### Rounds -/
theorem Ev.all {α : Type} {g : Nat → Option α} {r : α} (h : ∀ k, g k = some r) : Ev g r := ⟨0, fun k _ => h k⟩
theorem Ev.of1 {α β : Type} {g : Nat → Option α} {f : Nat → Option β} {r : α} {b : β} (h : Ev f b) (k : ∀ k, f k = some b → g k = some r) : Ev g r := by
  obtain ⟨K, h⟩ := h; exact ⟨K, fun n hn => k n (h n hn)⟩
theorem Ev.of2 {α β γ : Type} {g : Nat → Option α} {f : Nat → Option β} {f' : Nat → Option γ} {r : α} {b : β} {c : γ} (h : Ev f b) (h' : Ev f' c) (k : ∀ k, f k = some b → f' k = some c → g k = some r) : Ev g r := by
  obtain ⟨K, h⟩ := h; obtain ⟨K', h'⟩ := h'; exact ⟨K + K', fun n hn => k n (h n (by omega)) (h' n (by omega))⟩
theorem Ev.of3 {α β γ δ : Type} {g : Nat → Option α} {f : Nat → Option β} {f' : Nat → Option γ} {f'' : Nat → Option δ} {r : α} {b : β} {c : γ} {d : δ} (h : Ev f b) (h' : Ev f' c) (h'' : Ev f'' d)
    (k : ∀ k, f k = some b → f' k = some c → f'' k = some d → g k = some r) : Ev g r := by
  obtain ⟨K, h⟩ := h; obtain ⟨K', h'⟩ := h'; obtain ⟨K'', h''⟩ := h''
  exact ⟨K + K' + K'', fun n hn => k n (h n (by omega)) (h' n (by omega)) (h'' n (by omega))⟩
/-- Two at once: a pair of facts for one number of rounds. -/
def Both {α β : Type} (f : Nat → Option α) (g : Nat → Option β) (a : α) (b : β) : Prop := ∃ K, ∀ k, K ≤ k → f k = some a ∧ g k = some b
theorem Ev.next0 {α : Type} {g : Nat → Option α} {r : α} (h : ∀ k, g (k + 1) = some r) : Ev g r :=
  ⟨1, fun n hn => by obtain ⟨m, rfl⟩ : ∃ m, n = m + 1 := ⟨n - 1, by omega⟩; exact h m⟩
theorem Ev.next1 {α β : Type} {g : Nat → Option α} {f : Nat → Option β} {r : α} {b : β} (h : Ev f b) (k : ∀ k, f k = some b → g (k + 1) = some r) : Ev g r := by
  obtain ⟨K, h⟩ := h
  exact ⟨K + 1, fun n hn => by obtain ⟨m, rfl⟩ : ∃ m, n = m + 1 := ⟨n - 1, by omega⟩; exact k m (h m (by omega))⟩
theorem Ev.next2 {α β γ : Type} {g : Nat → Option α} {f : Nat → Option β} {f' : Nat → Option γ} {r : α} {b : β} {c : γ} (h : Ev f b) (h' : Ev f' c) (k : ∀ k, f k = some b → f' k = some c → g (k + 1) = some r) : Ev g r := by
  obtain ⟨K, h⟩ := h; obtain ⟨K', h'⟩ := h'
  exact ⟨K + K' + 1, fun n hn => by obtain ⟨m, rfl⟩ : ∃ m, n = m + 1 := ⟨n - 1, by omega⟩; exact k m (h m (by omega)) (h' m (by omega))⟩
theorem Ev.next3 {α β γ δ : Type} {g : Nat → Option α} {f : Nat → Option β} {f' : Nat → Option γ} {f'' : Nat → Option δ} {r : α} {b : β} {c : γ} {d : δ} (h : Ev f b) (h' : Ev f' c) (h'' : Ev f'' d)
    (k : ∀ k, f k = some b → f' k = some c → f'' k = some d → g (k + 1) = some r) : Ev g r := by
  obtain ⟨K, h⟩ := h; obtain ⟨K', h'⟩ := h'; obtain ⟨K'', h''⟩ := h''
  exact ⟨K + K' + K'' + 1, fun n hn => by obtain ⟨m, rfl⟩ : ∃ m, n = m + 1 := ⟨n - 1, by omega⟩; exact k m (h m (by omega)) (h' m (by omega)) (h'' m (by omega))⟩
theorem Ev.uniq {α : Type} {g : Nat → Option α} {r s : α} (h : Ev g r) (k : Ev g s) : r = s := by
  obtain ⟨K, h⟩ := h; obtain ⟨K', k⟩ := k
  have a := h (K + K') (by omega); have b := k (K + K') (by omega)
  rw [a] at b; exact Option.some.inj b

/-- From some number of rounds on. -/
def Evt (p : Nat → Prop) : Prop := ∃ K, ∀ k, K ≤ k → p k
theorem ev_one {α : Type} {f : Nat → Option α} {a : α} (h : Ev f a) : Evt (fun k => f k = some a) := h
theorem ev_and {α : Type} {f : Nat → Option α} {a : α} {p : Nat → Prop} (h : Ev f a) (h' : Evt p) : Evt (fun k => f k = some a ∧ p k) := by
  obtain ⟨K, h⟩ := h; obtain ⟨K', h'⟩ := h'; exact ⟨K + K', fun n hn => ⟨h n (by omega), h' n (by omega)⟩⟩
theorem Evt.ev {α : Type} {g : Nat → Option α} {r : α} {p : Nat → Prop} (h : Evt p) (k : ∀ k, p k → g k = some r) : Ev g r := by
  obtain ⟨K, h⟩ := h; exact ⟨K, fun n hn => k n (h n hn)⟩
theorem Evt.next {α : Type} {g : Nat → Option α} {r : α} {p : Nat → Prop} (h : Evt p) (k : ∀ k, p k → g (k + 1) = some r) : Ev g r := by
  obtain ⟨K, h⟩ := h
  exact ⟨K + 1, fun n hn => by obtain ⟨m, rfl⟩ : ∃ m, n = m + 1 := ⟨n - 1, by omega⟩; exact k m (h m (by omega))⟩

/-! ### Whole numbers -/
theorem wrap_id {x : Int} (h0 : -9223372036854775808 ≤ x) (h1 : x ≤ 9223372036854775807) : wrap64 x = x := by unfold wrap64; omega
theorem wrap_succ {i n : Nat} (h : i < n) (hn : n ≤ 9223372036854775807) : wrap64 ((i : Int) + 1) = ((i + 1 : Nat) : Int) := by unfold wrap64; omega
theorem toNat_cast (i : Nat) : ((i : Int)).toNat = i := by omega

theorem mx_eq (a b : Int) : mx a b = max a b := by unfold mx; split <;> omega
theorem mn_eq (a b : Int) : mn a b = min a b := by unfold mn; split <;> omega

/-! ### Lists from an index on -/
theorem drop_cons {α : Type} {xs ys : List α} {y : α} {i : Nat} (h : xs.drop i = y :: ys) : i < xs.length ∧ xs[i]? = some y ∧ xs.drop (i + 1) = ys := by
  have hlt : i < xs.length := by
    by_cases hlt : i < xs.length
    · exact hlt
    · rw [List.drop_of_length_le (by omega)] at h; cases h
  rw [List.drop_eq_getElem_cons hlt] at h
  injection h with h1 h2
  exact ⟨hlt, by rw [List.getElem?_eq_getElem hlt, h1], h2⟩
theorem drop_nil {α : Type} {xs : List α} {i : Nat} (h : xs.drop i = []) : xs.length ≤ i := by simpa using h
theorem getD_drop {α : Type} {xs ys : List α} {y d : α} {i : Nat} (h : xs.drop i = y :: ys) : xs.getD ((i : Int)).toNat d = y := by
  rw [toNat_cast, List.getD_eq_getElem?_getD, (drop_cons h).2.1]; rfl
theorem rd_drop {xs ys : List Int} {y : Int} {i : Nat} (h : xs.drop i = y :: ys) : rd xs (i : Int) = y := getD_drop h
theorem rdOf_drop {α : Type} {xs ys : List α} {y d : α} {i : Nat} (h : xs.drop i = y :: ys) : rdOf d xs (i : Int) = y := getD_drop h
theorem getD_get {α : Type} {xs : List α} {y d : α} {i : Nat} (h : xs[i]? = some y) : xs.getD ((i : Int)).toNat d = y := by
  rw [toNat_cast, List.getD_eq_getElem?_getD, h]; rfl
theorem rd_get {xs : List Int} {y : Int} {i : Nat} (h : xs[i]? = some y) : rd xs (i : Int) = y := getD_get h
theorem rdOf_get {α : Type} {xs : List α} {y d : α} {i : Nat} (h : xs[i]? = some y) : rdOf d xs (i : Int) = y := getD_get h
theorem drop_of_get {α : Type} {xs : List α} {y : α} {i : Nat} (h : xs[i]? = some y) : xs.drop i = y :: xs.drop (i + 1) := by
  obtain ⟨hl, rfl⟩ := List.getElem?_eq_some_iff.1 h
  exact List.drop_eq_getElem_cons hl

/-- What is left of a, n taken off; -1 if it isn't enough. -/
def left (a : Int) (n : Nat) : Int := if a < (n : Int) then -1 else a - (n : Int)
theorem left_lt {a : Int} {n : Nat} (h : a < (n : Int)) : left a n = -1 := if_pos h
theorem left_ge {a : Int} {n : Nat} (h : (n : Int) ≤ a) : left a n = a - (n : Int) := if_neg (by omega)
/-- How many values rows hold, the rows counted too. -/
def tot : List (List Int) → Nat
  | [] => 0
  | y :: ys => 1 + y.length + tot ys
def sumLen : List (List Int) → Nat
  | [] => 0
  | y :: ys => y.length + sumLen ys
theorem tot_eq : ∀ ls : List (List Int), tot ls = ls.length + sumLen ls
  | [] => rfl
  | y :: ys => by simp only [tot, sumLen, List.length_cons, tot_eq ys]; omega
theorem sumLen_mem : ∀ {ls : List (List Int)} {y : List Int}, y ∈ ls → y.length ≤ sumLen ls
  | z :: zs, y, h => by
    rcases List.mem_cons.1 h with rfl | h
    · simp only [sumLen]; omega
    · have := sumLen_mem h; simp only [sumLen]; omega

/-! ### A list that is copied, element for element -/
theorem copy_step {α : Type} {m x : List α} {y : α} {i : Nat} (hm : m[i]? = some y) (hl : x.length = m.length) (ht : x.take i = m.take i) : (x.set i y).length = m.length ∧ (x.set i y).take (i + 1) = m.take (i + 1) := by
  obtain ⟨hi, rfl⟩ := List.getElem?_eq_some_iff.1 hm
  refine ⟨by simpa using hl, ?_⟩
  apply List.ext_getElem?
  intro j
  have hj : (x.take i)[j]? = (m.take i)[j]? := by rw [ht]
  rw [List.getElem?_take, List.getElem?_take] at *
  by_cases h1 : j < i + 1
  · rw [if_pos h1, if_pos h1]
    by_cases h2 : j = i
    · subst h2
      rw [List.getElem?_set_self (by omega), List.getElem?_eq_getElem hi]
    · rw [List.getElem?_set_ne (by omega)]
      rw [if_pos (by omega), if_pos (by omega)] at hj
      exact hj
  · rw [if_neg h1, if_neg h1]
theorem copy_end {α : Type} {m x : List α} {i : Nat} (hl : x.length = m.length) (ht : x.take i = m.take i) (hi : m.length ≤ i) : x = m := by
  rw [List.take_of_length_le (by omega), List.take_of_length_le hi] at ht; exact ht

/-! ### Strictly increasing lists of 0..n-1 -/
def rise (n : Int) : Int → List Int → Bool
  | _, [] => true
  | p, y :: ys => decide (0 ≤ y ∧ y < n ∧ p < y) && rise n y ys
theorem rise_mem {n : Int} : ∀ {p : Int} {ys : List Int}, rise n p ys = true → ∀ y ∈ ys, 0 ≤ y ∧ y < n ∧ p < y
  | p, [], _, y, hy => by cases hy
  | p, z :: zs, h, y, hy => by
    simp only [rise, Bool.and_eq_true, decide_eq_true_eq] at h
    rcases List.mem_cons.1 hy with rfl | hy
    · exact h.1
    · have := rise_mem h.2 y hy; omega

/-! ### Numbers marked and held -/
def markI : Nat → Int → List Int
  | 0, _ => []
  | n + 1, k => k :: markI n (k + 1)
theorem markI_length : ∀ (n : Nat) (k : Int), (markI n k).length = n
  | 0, _ => rfl
  | n + 1, k => by simp [markI, markI_length n (k + 1)]
theorem markI_get : ∀ (n : Nat) (k : Int) (j : Nat), j < n → (markI n k)[j]? = some (k + j)
  | 0, _, _, h => by omega
  | n + 1, k, 0, _ => by simp [markI]
  | n + 1, k, j + 1, h => by simp only [markI, List.getElem?_cons_succ]; rw [markI_get n (k + 1) j (by omega)]; congr 1; push_cast; omega
def markB : Nat → Int → List Bool
  | 0, _ => []
  | n + 1, k => (Int.tmod k 3 == 0) :: markB n (k + 1)
theorem markB_length : ∀ (n : Nat) (k : Int), (markB n k).length = n
  | 0, _ => rfl
  | n + 1, k => by simp [markB, markB_length n (k + 1)]
theorem markB_get : ∀ (n : Nat) (k : Int) (j : Nat), j < n → (markB n k)[j]? = some (Int.tmod (k + j) 3 == 0)
  | 0, _, _, h => by omega
  | n + 1, k, 0, _ => by simp [markB]
  | n + 1, k, j + 1, h => by simp only [markB, List.getElem?_cons_succ]; rw [markB_get n (k + 1) j (by omega)]; congr 2; congr 1; push_cast; omega
end Go.Proofs.Ytoaglacdklmafaa.Kit
namespace Go.Proofs.Ytoaglacdklmafaa.Model
open Go.RowKit Go.Proofs.YtoaglacdklmafaaW.PrintWords Go.Proofs.Ytoaglacdklmafaa.Kit

/-- Numbers within bounds, all of them. -/
def allIn (lo hi : Int) : List Int → Bool
  | [] => true
  | y :: ys => decide (lo ≤ y ∧ y ≤ hi) && allIn lo hi ys
theorem allIn_mem {lo hi : Int} : ∀ {ys : List Int}, allIn lo hi ys = true → ∀ y ∈ ys, lo ≤ y ∧ y ≤ hi
  | [], _, y, hy => by cases hy
  | z :: zs, h, y, hy => by
    simp only [allIn, Bool.and_eq_true, decide_eq_true_eq] at h
    rcases List.mem_cons.1 hy with rfl | hy
    · exact h.1
    · exact allIn_mem h.2 y hy
theorem allIn_get {lo hi : Int} {ys : List Int} (h : allIn lo hi ys = true) {i : Nat} {y : Int} (hy : ys[i]? = some y) : lo ≤ y ∧ y ≤ hi := allIn_mem h y (List.mem_of_getElem? hy)
theorem allIn_of {lo hi : Int} : ∀ {ys : List Int}, (∀ y ∈ ys, lo ≤ y ∧ y ≤ hi) → allIn lo hi ys = true
  | [], _ => rfl
  | z :: zs, h => by simp only [allIn, Bool.and_eq_true, decide_eq_true_eq]; exact ⟨h z (by simp), allIn_of fun y hy => h y (by simp [hy])⟩

/-- The greatest number of 'false' behind each other; m: so far; n: those just before. -/
def down : List Bool → Int → Int → Int
  | [], m, _ => m
  | b :: bs, m, n => if b = true then down bs (max m 0) 0 else down bs (max m (n + 1)) (n + 1)

def mixStep (a x : Int) : Int := Int.tmod (wrap64 ((Int.tmod (wrap64 ((wrap64 ((wrap64 (33 * a)) + x)) + 11)) 1000003) * (wrap64 ((wrap64 (Int.tdiv (Int.tmod (wrap64 ((wrap64 ((wrap64 (33 * a)) + x)) + 11)) 1000003) 16)) + 7)))) 1000003
def mix (l : List Int) : Int := (l ++ [5, 2]).foldl mixStep (wrap64 (6007 + (l.length : Int)))
def keyOk (l : List Int) : Bool := decide (l.length ≤ 8) && allIn 0 1000000000 l

def gridOk (x y z : Int) : Bool := decide (1 ≤ x ∧ x ≤ 8 ∧ 1 ≤ y ∧ y ≤ 6 ∧ 1 ≤ z ∧ z ≤ 5 ∧ x * y * z ≤ 120)
theorem grid_prod {x y z : Int} (hx : 1 ≤ x ∧ x ≤ 8) (hy : 1 ≤ y ∧ y ≤ 6) (hz : 1 ≤ z ∧ z ≤ 5) : 1 ≤ x * y ∧ x * y ≤ 48 ∧ 1 ≤ x * y * z ∧ x * y * z ≤ 240 := by
  rcases (by omega : x = 1 ∨ x = 2 ∨ x = 3 ∨ x = 4 ∨ x = 5 ∨ x = 6 ∨ x = 7 ∨ x = 8) with rfl | rfl | rfl | rfl | rfl | rfl | rfl | rfl <;>
    rcases (by omega : z = 1 ∨ z = 2 ∨ z = 3 ∨ z = 4 ∨ z = 5) with rfl | rfl | rfl | rfl | rfl <;> omega
theorem grid_ok {x y z : Int} (h : gridOk x y z = true) : (1 ≤ x ∧ x ≤ 8) ∧ (1 ≤ y ∧ y ≤ 6) ∧ (1 ≤ z ∧ z ≤ 5) ∧ 1 ≤ x * y ∧ x * y ≤ 48 ∧ 1 ≤ x * y * z ∧ x * y * z ≤ 120 := by
  simp only [gridOk, decide_eq_true_eq] at h
  have := grid_prod (x := x) (y := y) (z := z) (by omega) (by omega) (by omega)
  omega
theorem grid_wrap {x y z : Int} (hx : 1 ≤ x ∧ x ≤ 8) (hy : 1 ≤ y ∧ y ≤ 6) (hz : 1 ≤ z ∧ z ≤ 5) : wrap64 (wrap64 (x * y) * z) = x * y * z := by
  have := grid_prod hx hy hz
  rw [wrap_id (x := x * y) (by omega) (by omega), wrap_id (by omega) (by omega)]
def holeOk (gx gy gz x y z t g : Int) : Bool := decide (0 ≤ x ∧ x < 10 * gx ∧ 0 ≤ y ∧ y < 10 * gy ∧ 0 ≤ z ∧ z < 10 * gz ∧ 1 ≤ t ∧ t ≤ 1000 ∧ 0 ≤ g ∧ g ≤ 1000)
def benchOk (x y : Int) (l : List Int) : Bool := decide (1 ≤ x ∧ x ≤ 8 ∧ 1 ≤ y ∧ y ≤ 6 ∧ (l.length : Int) = x * y) && allIn (-1000000) 1000000 l
theorem bench_prod {x y : Int} (hx : 1 ≤ x ∧ x ≤ 8) (hy : 1 ≤ y ∧ y ≤ 6) : 1 ≤ x * y ∧ x * y ≤ 48 := by
  rcases (by omega : x = 1 ∨ x = 2 ∨ x = 3 ∨ x = 4 ∨ x = 5 ∨ x = 6 ∨ x = 7 ∨ x = 8) with rfl | rfl | rfl | rfl | rfl | rfl | rfl | rfl <;> omega
theorem bench_len {x y : Int} {l : List Int} (h : benchOk x y l = true) : (1 ≤ x ∧ x ≤ 8) ∧ (1 ≤ y ∧ y ≤ 6) ∧ (l.length : Int) = x * y ∧ 1 ≤ l.length ∧ l.length ≤ 48 := by
  simp only [benchOk, Bool.and_eq_true, decide_eq_true_eq] at h
  have := bench_prod (x := x) (y := y) (by omega) (by omega)
  omega
theorem bench_vals {x y : Int} {l : List Int} (h : benchOk x y l = true) : allIn (-1000000) 1000000 l = true := by
  simp only [benchOk, Bool.and_eq_true] at h; exact h.2
def rowHolds (l : List Int) : Bool := decide (rd l 0 = wrap64 (wrap64 (rd l 2 + rd l 4) + rd l 6)) && (rd l 1 == wrap64 (wrap64 (rd l 3 + rd l 5) + rd l 7))
def rowOk (l : List Int) : Bool := decide (l.length = 12) && allIn 0 100000000000 l
def rowsOk : List (List Int) → Bool
  | [] => true
  | y :: ys => rowOk y && rowsOk ys
theorem rowsOk_mem : ∀ {ls : List (List Int)}, rowsOk ls = true → ∀ y ∈ ls, rowOk y = true
  | z :: zs, h, y, hy => by
    simp only [rowsOk, Bool.and_eq_true] at h
    rcases List.mem_cons.1 hy with rfl | hy
    · exact h.1
    · exact rowsOk_mem h.2 y hy
theorem row_len {y : List Int} (h : rowOk y = true) : y.length = 12 := by simp [rowOk] at h; exact h.1
theorem row_rd {y : List Int} (h : rowOk y = true) (i : Nat) (hi : i < 12) : 0 ≤ rd y (i : Int) ∧ rd y (i : Int) ≤ 100000000000 := by
  have hl := row_len h
  simp only [rowOk, Bool.and_eq_true] at h
  have hg : y[i]? = some (y[i]'(by omega)) := List.getElem?_eq_getElem (by omega)
  rw [rd_get hg]
  exact allIn_get h.2 hg
def piles : List (List Int) → Int → Int
  | [], m => m
  | y :: ys, m => piles ys (max m (rd y 10))
/-- The first row that doesn't balance, from index i on. -/
def imbal : List (List Int) → Nat → Int → Int → Nat
  | [], i, _, _ => i
  | y :: ys, i, t, m => if rowHolds y = true ∧ rd y 10 = t + (rd y 4 - rd y 8) ∧ rd y 11 = m + (rd y 5 - rd y 9) then imbal ys (i + 1) (rd y 10) (rd y 11) else i
def machOk (a b : Int) : Bool := decide (0 ≤ a ∧ a ≤ 100 ∧ 0 ≤ b ∧ b ≤ 100)
/-- The states of a machine: d shifts, from shift s on; 'now': is it ready? -/
def states (f r key : Int) : Nat → Int → Bool → List Bool
  | 0, _, _ => []
  | d + 1, s, now => now :: states f r key d (s + 1) (if Int.tmod (mix [key, s, 3, 100]) 100 < (if now = true then f else r) then !now else now)
theorem states_length (f r key : Int) : ∀ (d : Nat) (s : Int) (now : Bool), (states f r key d s now).length = d
  | 0, _, _ => rfl
  | d + 1, s, now => by simp [states, states_length]
/-- Tonnes and losses of a bench. -/
def lossWaste : List Int → List Bool → Int → Int → Int × Int
  | v :: vs, b :: bs, l, w => if b = true then lossWaste vs bs l (w + max 0 (-v)) else lossWaste vs bs (l + max 0 v) w
  | _, _, l, w => (l, w)
def dugSum : List Int → List Bool → Int → Int
  | v :: vs, b :: bs, s => dugSum vs bs (if b = true then s + v else s)
  | _, _, s => s
def modelOk (x y z : Int) (t g r : List Int) : Bool := gridOk x y z && decide ((t.length : Int) = x * y * z ∧ (g.length : Int) = x * y * z ∧ (r.length : Int) = x * y * z) && (allIn 0 10000 t && (allIn 0 1000 g && allIn 0 4 r))
theorem sq_bd {d : Int} (h : -1000 ≤ d ∧ d ≤ 1000) : 0 ≤ d * d ∧ d * d ≤ 1000000 := by
  rcases Int.le_total 0 d with h0 | h0
  · exact ⟨Int.mul_nonneg h0 h0, Int.mul_le_mul h.2 h.2 h0 (by omega)⟩
  · rw [← Int.neg_mul_neg]
    exact ⟨Int.mul_nonneg (by omega) (by omega), Int.mul_le_mul (a := -d) (b := -d) (c := 1000) (d := 1000) (by omega) (by omega) (by omega) (by omega)⟩
/-- The square of the distance of a place from the middle of a block's place. -/
def farOf (px py pz x y z : Int) : Int := (x - 10 * px - 5) * (x - 10 * px - 5) + (y - 10 * py - 5) * (y - 10 * py - 5) + (z - 10 * pz - 5) * (z - 10 * pz - 5)
theorem far_nonneg (px py pz x y z : Int) : 0 ≤ farOf px py pz x y z := by
  have h : ∀ d : Int, 0 ≤ d * d := fun d => by
    rcases Int.le_total 0 d with h0 | h0
    · exact Int.mul_nonneg h0 h0
    · rw [← Int.neg_mul_neg]; exact Int.mul_nonneg (by omega) (by omega)
  have a := h (x - 10 * px - 5); have b := h (y - 10 * py - 5); have c := h (z - 10 * pz - 5)
  unfold farOf; omega
theorem far_wrap {px py pz x y z : Int} (hx : 0 ≤ px ∧ px ≤ 10) (hy : 0 ≤ py ∧ py ≤ 10) (hz : 0 ≤ pz ∧ pz ≤ 10) (kx : 0 ≤ x ∧ x ≤ 100) (ky : 0 ≤ y ∧ y ≤ 100) (kz : 0 ≤ z ∧ z ≤ 100) :
    wrap64 ((wrap64 ((wrap64 ((wrap64 ((wrap64 (x - (wrap64 (10 * px)))) - 5)) * (wrap64 ((wrap64 (x - (wrap64 (10 * px)))) - 5)))) + (wrap64 ((wrap64 ((wrap64 (y - (wrap64 (10 * py)))) - 5)) * (wrap64 ((wrap64 (y - (wrap64 (10 * py)))) - 5)))))) + (wrap64 ((wrap64 ((wrap64 (z - (wrap64 (10 * pz)))) - 5)) * (wrap64 ((wrap64 (z - (wrap64 (10 * pz)))) - 5))))) = farOf px py pz x y z := by
  have a := sq_bd (d := x - 10 * px - 5) (by omega)
  have b := sq_bd (d := y - 10 * py - 5) (by omega)
  have c := sq_bd (d := z - 10 * pz - 5) (by omega)
  rw [wrap_id (x := 10 * px) (by omega) (by omega), wrap_id (x := 10 * py) (by omega) (by omega), wrap_id (x := 10 * pz) (by omega) (by omega),
    wrap_id (x := x - 10 * px) (by omega) (by omega), wrap_id (x := y - 10 * py) (by omega) (by omega), wrap_id (x := z - 10 * pz) (by omega) (by omega),
    wrap_id (x := x - 10 * px - 5) (by omega) (by omega), wrap_id (x := y - 10 * py - 5) (by omega) (by omega), wrap_id (x := z - 10 * pz - 5) (by omega) (by omega),
    wrap_id (x := (x - 10 * px - 5) * (x - 10 * px - 5)) (by omega) (by omega), wrap_id (x := (y - 10 * py - 5) * (y - 10 * py - 5)) (by omega) (by omega), wrap_id (x := (z - 10 * pz - 5) * (z - 10 * pz - 5)) (by omega) (by omega),
    wrap_id (x := (x - 10 * px - 5) * (x - 10 * px - 5) + (y - 10 * py - 5) * (y - 10 * py - 5)) (by omega) (by omega), wrap_id (by omega) (by omega)]
  rfl
def near {α : Type} (far : α → Int) : List α → Int → Int → Int → Int
  | [], _, best, _ => best
  | h :: hs, i, best, least => if least < 0 ∨ far h < least then near far hs (i + 1) i (far h) else near far hs (i + 1) best least
def hasBlock (x y z i : Int) : Bool := gridOk x y z && decide (0 ≤ i ∧ i < x * y * z)
theorem place_of {x y z i : Int} (h : hasBlock x y z i = true) : (0 ≤ i % x ∧ i % x < x) ∧ (0 ≤ i / x % y ∧ i / x % y < y) ∧ (0 ≤ i / x / y ∧ i / x / y < z) ∧ 0 ≤ i / x ∧ i / x ≤ 120 := by
  simp only [hasBlock, Bool.and_eq_true, decide_eq_true_eq] at h
  have hb := grid_ok h.1
  have hi := h.2
  have h1 : 0 ≤ i / x := Int.ediv_nonneg (by omega) (by omega)
  have h2 : i / x < y * z := by
    apply Int.ediv_lt_of_lt_mul (by omega)
    rw [Int.mul_comm (y * z) x, ← Int.mul_assoc]; exact hi.2
  have h3 : i / x / y < z := by
    apply Int.ediv_lt_of_lt_mul (by omega)
    rw [Int.mul_comm z y]; exact h2
  have h4 : i / x ≤ i := Int.ediv_le_self _ (by omega)
  exact ⟨⟨Int.emod_nonneg _ (by omega), Int.emod_lt_of_pos _ (by omega)⟩, ⟨Int.emod_nonneg _ (by omega), Int.emod_lt_of_pos _ (by omega)⟩, ⟨Int.ediv_nonneg h1 (by omega), h3⟩, h1, by omega⟩
/-- A fraction in lowest terms, of numbers that are not negative. -/
def low (a b : Int) : Int × Int := (a / (Nat.gcd a.natAbs b.natAbs : Int), b / (Nat.gcd a.natAbs b.natAbs : Int))
theorem low_bd {a b : Int} (ha : 0 ≤ a) (hb : 0 < b) : 1 ≤ (Nat.gcd a.natAbs b.natAbs : Int) ∧ 0 ≤ (low a b).1 ∧ (low a b).1 ≤ a ∧ 1 ≤ (low a b).2 ∧ (low a b).2 ≤ b ∧ a = (low a b).1 * (Nat.gcd a.natAbs b.natAbs : Int) ∧ b = (low a b).2 * (Nat.gcd a.natAbs b.natAbs : Int) := by
  have hg : 0 < Nat.gcd a.natAbs b.natAbs := Nat.gcd_pos_of_pos_right _ (by omega)
  have d1 : (Nat.gcd a.natAbs b.natAbs : Int) ∣ a := Int.natAbs_dvd_natAbs.1 (by simpa using Nat.gcd_dvd_left a.natAbs b.natAbs)
  have d2 : (Nat.gcd a.natAbs b.natAbs : Int) ∣ b := Int.natAbs_dvd_natAbs.1 (by simpa using Nat.gcd_dvd_right a.natAbs b.natAbs)
  have e1 := Int.ediv_mul_cancel d1
  have e2 := Int.ediv_mul_cancel d2
  have h1 : 0 ≤ a / (Nat.gcd a.natAbs b.natAbs : Int) := Int.ediv_nonneg ha (by omega)
  have h2 : a / (Nat.gcd a.natAbs b.natAbs : Int) ≤ a := Int.ediv_le_self _ ha
  have h3 : 0 ≤ b / (Nat.gcd a.natAbs b.natAbs : Int) := Int.ediv_nonneg (by omega) (by omega)
  have h4 : b / (Nat.gcd a.natAbs b.natAbs : Int) ≤ b := Int.ediv_le_self _ (by omega)
  refine ⟨by omega, h1, h2, ?_, h4, e1.symm, e2.symm⟩
  by_cases h5 : b / (Nat.gcd a.natAbs b.natAbs : Int) = 0
  · rw [h5] at e2; omega
  · show 1 ≤ b / (Nat.gcd a.natAbs b.natAbs : Int); omega
theorem low_scale {a b c : Int} (ha : 0 ≤ a) (hb : 0 < b) (hc : 0 < c) : low (a * c) (b * c) = low a b := by
  have hg : 0 < Nat.gcd a.natAbs b.natAbs := Nat.gcd_pos_of_pos_right _ (by omega)
  have e : (Nat.gcd (a * c).natAbs (b * c).natAbs : Int) = (Nat.gcd a.natAbs b.natAbs : Int) * c := by
    rw [Int.natAbs_mul, Int.natAbs_mul, Nat.gcd_mul_right, Int.natCast_mul]; congr 1; omega
  simp only [low, e]
  rw [Int.mul_ediv_mul_of_pos_left _ _ hc, Int.mul_ediv_mul_of_pos_left _ _ hc]
/-- Ready and down, behind one shift more. -/
def turn (f r : Int) (p : Int × Int) : Int × Int := (p.1 * (100 - f) + p.2 * r, p.1 * f + p.2 * (100 - r))
def turns (f r : Int) : Nat → Int × Int → Int × Int
  | 0, p => p
  | n + 1, p => turns f r n (turn f r p)
def begin_ (c : Bool) : Int × Int := if c = true then (1, 0) else (0, 1)
theorem turn_bd {f r : Int} {p : Int × Int} (hm : machOk f r = true) (h1 : 0 ≤ p.1) (h2 : 0 ≤ p.2) :
    (0 ≤ p.1 * (100 - f) ∧ p.1 * (100 - f) ≤ p.1 * 100) ∧ (0 ≤ p.2 * r ∧ p.2 * r ≤ p.2 * 100) ∧ (0 ≤ p.1 * f ∧ p.1 * f ≤ p.1 * 100) ∧ (0 ≤ p.2 * (100 - r) ∧ p.2 * (100 - r) ≤ p.2 * 100) ∧ p.1 * f = p.1 * 100 - p.1 * (100 - f) ∧ p.2 * (100 - r) = p.2 * 100 - p.2 * r := by
  simp only [machOk, decide_eq_true_eq] at hm
  have m : ∀ {a b : Int}, 0 ≤ a → 0 ≤ b → b ≤ 100 → 0 ≤ a * b ∧ a * b ≤ a * 100 := fun ha hb hc => ⟨Int.mul_nonneg ha hb, Int.mul_le_mul_of_nonneg_left hc ha⟩
  refine ⟨m h1 (by omega) (by omega), m h2 (by omega) (by omega), m h1 (by omega) (by omega), m h2 (by omega) (by omega), ?_, ?_⟩
  · rw [Int.mul_sub]; omega
  · rw [Int.mul_sub]
theorem turn_sum {f r : Int} {p : Int × Int} (hm : machOk f r = true) (h1 : 0 ≤ p.1) (h2 : 0 ≤ p.2) : 0 ≤ (turn f r p).1 ∧ 0 ≤ (turn f r p).2 ∧ (turn f r p).1 + (turn f r p).2 = (p.1 + p.2) * 100 := by
  have := turn_bd hm h1 h2
  simp only [turn]; omega
theorem turns_sum {f r : Int} (hm : machOk f r = true) : ∀ (n : Nat) (p : Int × Int), 0 ≤ p.1 → 0 ≤ p.2 → 0 ≤ (turns f r n p).1 ∧ 0 ≤ (turns f r n p).2 ∧ (turns f r n p).1 + (turns f r n p).2 = (p.1 + p.2) * 100 ^ n
  | 0, p, h1, h2 => by simp [turns, h1, h2]
  | n + 1, p, h1, h2 => by
    have a := turn_sum hm h1 h2
    have b := turns_sum hm n (turn f r p) a.1 a.2.1
    simp only [turns]
    refine ⟨b.1, b.2.1, ?_⟩
    rw [b.2.2, a.2.2, Int.pow_succ, Int.mul_assoc, Int.mul_comm 100 (100 ^ n)]
theorem pow_ge (n : Nat) : 1 ≤ (100 : Int) ^ n := by have := Int.pow_pos (n := 100) (m := n) (by omega); omega
/-- What the shifts tell: the first number of each. -/
def tells (f r : Int) : Nat → Int × Int → List Int
  | 0, _ => []
  | n + 1, p => (turn f r p).1 :: tells f r n (turn f r p)
theorem tells_length (f r : Int) : ∀ (n : Nat) (p : Int × Int), (tells f r n p).length = n
  | 0, _ => rfl
  | n + 1, p => by simp [tells, tells_length f r n]
theorem tells_get (f r : Int) : ∀ (n : Nat) (p : Int × Int) (s : Nat), s < n → (tells f r n p)[s]? = some (turns f r (s + 1) p).1
  | 0, _, s, h => by omega
  | n + 1, p, 0, h => by simp [tells, turns]
  | n + 1, p, s + 1, h => by simp only [tells, List.getElem?_cons_succ]; rw [tells_get f r n (turn f r p) s (by omega)]; rfl
/-- The sum of the first j numbers, each brought to 100 to the power e. -/
def meanSum (C : Nat → Int) (e : Nat) : Nat → Int
  | 0 => 0
  | j + 1 => meanSum C e j + C j * 100 ^ (e - j)
theorem meanSum_bd {C : Nat → Int} {e : Nat} (hC : ∀ s, s ≤ 5 → 0 ≤ C s ∧ C s ≤ 100 ^ s) : ∀ j, j ≤ e + 1 → j ≤ 5 → (0 ≤ meanSum C e j ∧ meanSum C e j ≤ j * 100 ^ e) ∧ (j ≤ e → 0 ≤ C j * 100 ^ (e - j) ∧ C j * 100 ^ (e - j) ≤ 100 ^ e)
  | 0, h, h5 => ⟨by simp [meanSum], fun _ => by
      have c := hC 0 (by omega)
      refine ⟨Int.mul_nonneg c.1 (by have := pow_ge (e - 0); omega), ?_⟩
      have h : C 0 * 100 ^ (e - 0) ≤ 1 * 100 ^ (e - 0) := Int.mul_le_mul_of_nonneg_right (by simpa using c.2) (by have := pow_ge (e - 0); omega)
      simpa using h⟩
  | j + 1, h, h5 => by
    have a := meanSum_bd (e := e) hC j (by omega) (by omega)
    have a2 := a.2 (by omega)
    refine ⟨?_, fun hj => ?_⟩
    · simp only [meanSum]
      have e1 : ((j + 1 : Nat) : Int) * 100 ^ e = (j : Int) * 100 ^ e + 100 ^ e := by rw [Int.natCast_succ, Int.add_mul, Int.one_mul]
      omega
    · have c := hC (j + 1) h5
      have hp := pow_ge (e - (j + 1))
      refine ⟨Int.mul_nonneg c.1 (by omega), ?_⟩
      have q : C (j + 1) * 100 ^ (e - (j + 1)) ≤ 100 ^ (j + 1) * 100 ^ (e - (j + 1)) := Int.mul_le_mul_of_nonneg_right c.2 (by omega)
      rw [← Int.pow_add (100 : Int) (j + 1) (e - (j + 1)), show j + 1 + (e - (j + 1)) = e by omega] at q
      exact q
theorem meanSum_scale (C : Nat → Int) (e d : Nat) : ∀ j, j ≤ e + 1 → meanSum C (e + d) j = meanSum C e j * 100 ^ d
  | 0, h => by simp [meanSum]
  | j + 1, h => by
    simp only [meanSum]
    rw [meanSum_scale C e d j (by omega), Int.add_mul, Int.mul_assoc (C j), ← Int.pow_add, show e + d - j = e - j + d by omega]
theorem pow_div (j : Nat) (h : j ≤ 4) : (100000000 : Int) / 100 ^ j = 100 ^ (4 - j) := by
  rcases (by omega : j = 0 ∨ j = 1 ∨ j = 2 ∨ j = 3 ∨ j = 4) with rfl | rfl | rfl | rfl | rfl <;> decide
/-- A row of cells and rows of them, as bytes: the last row first. -/
def rowBytes (bs : List Bool) : List Int := bs.map fun b => if b = true then 35 else 46
def digBytes (d : List Bool) (w : Nat) : Nat → List Int
  | 0 => []
  | y + 1 => rowBytes ((d.drop (y * w)).take w) ++ 10 :: digBytes d w y
theorem str_snoc (xs : List Int) (x : Int) (b : UInt8) (h : UInt8.ofNat x.toNat = b) : strOfNums xs ++ (⟨#[b]⟩ : ByteArray) = strOfNums (xs ++ [x]) := by
  apply ByteArray.ext
  simp [strOfNums, ByteArray.data_append, h]
theorem grid_row {w y : Nat} {n : Nat} (hw : 1 ≤ w ∧ w ≤ 8) (hy : y < 6) (hn : (y + 1) * w ≤ n) (h48 : n ≤ 48) : y * w ≤ 48 ∧ (y + 1) * w = y * w + w ∧ y * w + w ≤ n := by
  rw [Nat.add_mul, Nat.one_mul] at hn ⊢; omega
end Go.Proofs.Ytoaglacdklmafaa.Model
namespace Go.Proofs.Ytoaglacdklmafaa.PureFnExactChangedBlocks
open Go.RowKit Go.Proofs.Ytoaglacdklmafaa.PFnExactChangedBlocks Go.Proofs.YtoaglacdklmafaaW.PrintWords Go.Proofs.YtoaglacdklmafaaW.PrintLast Go.Proofs.YtoaglacdklmafaaW.PrintMore Go.Proofs.Ytoaglacdklmafaa.Kit Go.Proofs.Ytoaglacdklmafaa.Model
theorem laws_szIntS_eq (l : List Int) (a : Int) (h0 : 0 ≤ a) (ha : a ≤ 1048576) (hn : l.length ≤ 9223372036854775807) : laws_szIntS.f l a = some (if a < l.length then -1 else a - l.length) := by
  simp only [laws_szIntS.f]
  rw [wrap_id (by omega) (by omega)]
  split
  · rw [if_pos (by omega)]
  · rw [if_neg (by omega)]
theorem laws_szModel_eq (x y z : Int) (t g r : List Int) (a : Int) (h0 : 0 ≤ a) (ha : a ≤ 1048576) (ht : t.length ≤ 9223372036854775807) (hg : g.length ≤ 9223372036854775807) (hr : r.length ≤ 9223372036854775807) : laws_szModel.f x y z t g r a = some (left a (t.length + g.length + r.length)) := by
  simp only [laws_szModel.f, laws_szIntS_eq t a h0 ha ht, Option.bind_some]
  by_cases h1 : a < (t.length : Int)
  · rw [if_pos h1, if_pos (by omega), left_lt (by omega)]
  · rw [if_neg h1, if_neg (by omega), laws_szIntS_eq g _ (by omega) (by omega) hg, Option.bind_some]
    by_cases h2 : a - (t.length : Int) < (g.length : Int)
    · rw [if_pos h2, if_pos (by omega), left_lt (by omega)]
    · rw [if_neg h2, if_neg (by omega), laws_szIntS_eq r _ (by omega) (by omega) hr, Option.bind_some]
      by_cases h3 : a - (t.length : Int) - (g.length : Int) < (r.length : Int)
      · rw [if_pos h3, if_pos (by omega), left_lt (by omega)]
      · rw [if_neg h3, if_neg (by omega), left_ge (by omega)]; congr 1; omega
theorem laws_toIntS_l0 (l : List Int) (hn : l.length ≤ 9223372036854775807) : ∀ (ys : List Int) (i : Nat) (x : List Int), l.drop i = ys → x.length = l.length → x.take i = l.take i → Ev (fun k => laws_toIntS.l0 k l x i) l
  | [], i, x, h, hl, ht => Ev.next0 fun k => by
      have h0 := drop_nil h
      have h1 : l.length = l.length := by simp
      simp only [laws_toIntS.l0]
      rw [if_neg (by omega), copy_end hl ht (by omega)]
  | y :: ys, i, x, h, hl, ht => by
      obtain ⟨h1, h2, h3⟩ := drop_cons h
      have hm : l.length = l.length := by simp
      have hg : l[i]? = some y := by simp [h2]
      obtain ⟨c1, c2⟩ := copy_step hg hl ht
      refine Ev.next1 (laws_toIntS_l0 l hn ys (i + 1) (x.set i y) h3 c1 c2) fun k hk => ?_
      have e := rd_drop h
      simp only [laws_toIntS.l0, e, Option.bind_some]
      rw [if_pos (by omega), if_pos (by omega), if_pos (by omega), wrap_succ h1 hn, toNat_cast]
      exact hk
theorem laws_toIntS_ev (l : List Int) (hn : l.length ≤ 35184372088832) : Ev (fun k => laws_toIntS.f k l) l :=
  Ev.of1 (laws_toIntS_l0 l (by omega) l 0 (List.replicate ((l.length : Int)).toNat 0) rfl (by simp) rfl) fun k hk => by
    simp only [laws_toIntS.f]
    rw [if_pos (by omega), if_pos (by omega)]
    exact hk
theorem laws_toModel_ev (x y z : Int) (t g r : List Int) (ht : t.length ≤ 1048576) (hg : g.length ≤ 1048576) (hr : r.length ≤ 1048576) : Ev (fun k => laws_toModel.f k x y z t g r) (x, y, z, t, g, r) :=
  (ev_and (laws_toIntS_ev t (by omega)) <| ev_and (laws_toIntS_ev g (by omega)) <| ev_one (laws_toIntS_ev r (by omega))).ev fun k ⟨h1, h2, h3⟩ => by
    simp only [laws_toModel.f, laws_toGrid.f, h1, h2, h3, Option.bind_some]
theorem laws_eqIntS_l0 (l : List Int) (hn : l.length ≤ 9223372036854775807) : ∀ (ys : List Int) (i : Nat), l.drop i = ys → Ev (fun k => laws_eqIntS.l0 k l l i) true
  | [], i, h => Ev.next0 fun k => by
      have h0 := drop_nil h
      simp only [laws_eqIntS.l0]
      rw [if_neg (by omega)]
  | y :: ys, i, h => by
      obtain ⟨h1, h2, h3⟩ := drop_cons h
      refine Ev.next1 (laws_eqIntS_l0 l hn ys (i + 1) h3) fun k hk => ?_
      have e := rd_drop h
      simp only [laws_eqIntS.l0, e]
      rw [if_pos (by omega), if_pos (by omega), if_pos (by omega), if_pos (by simp), wrap_succ h1 hn]
      exact hk
theorem laws_eqIntS_ev (l : List Int) (hn : l.length ≤ 9223372036854775807) : Ev (fun k => laws_eqIntS.f k l l) true :=
  Ev.of1 (laws_eqIntS_l0 l hn l 0 rfl) fun k hk => by
    simp only [laws_eqIntS.f]
    rw [if_pos (by simp)]
    exact hk
theorem laws_eqModel_ev (x y z : Int) (t g r : List Int) (ht : t.length ≤ 1048576) (hg : g.length ≤ 1048576) (hr : r.length ≤ 1048576) : Ev (fun k => laws_eqModel.f k x y z t g r x y z t g r) true :=
  (ev_and (laws_eqIntS_ev t (by omega)) <| ev_and (laws_eqIntS_ev g (by omega)) <| ev_one (laws_eqIntS_ev r (by omega))).ev fun k ⟨h1, h2, h3⟩ => by
    simp [laws_eqModel.f, laws_eqGrid.f, h1, h2, h3]
theorem spec_l1In_eq (a lo hi : Int) : spec_l1In.f a lo hi = some (decide (lo ≤ a ∧ a ≤ hi)) := by
  unfold spec_l1In.f
  split
  · congr 1; simp; omega
  · congr 1; simp; omega
theorem spec_l1All_l0 (lo hi : Int) (l : List Int) (hn : l.length ≤ 9223372036854775807) : ∀ (ys : List Int) (i : Nat), l.drop i = ys → Ev (fun k => spec_l1All.l0 k lo hi l (l.length : Int) i) (allIn lo hi ys)
  | [], i, h => Ev.next0 fun k => by
      have h0 := drop_nil h
      simp only [spec_l1All.l0, allIn]
      rw [if_neg (by omega)]
  | y :: ys, i, h => by
      obtain ⟨h1, h2, h3⟩ := drop_cons h
      refine Ev.next1 (spec_l1All_l0 lo hi l hn ys (i + 1) h3) fun k hk => ?_
      have e := rd_drop h
      simp only [spec_l1All.l0, e, spec_l1In_eq, Option.bind_some]
      rw [if_pos (by omega), if_pos (by omega), if_pos (by omega), wrap_succ h1 hn]
      by_cases hy : lo ≤ y ∧ y ≤ hi
      · rw [if_pos (decide_eq_true hy), hk]; simp [allIn, hy]
      · rw [if_neg (by simp; omega)]; simp [allIn, hy]
theorem spec_l1All_ev (l : List Int) (lo hi : Int) (hn : l.length ≤ 9223372036854775807) : Ev (fun k => spec_l1All.f k l lo hi) (allIn lo hi l) :=
  Ev.of1 (spec_l1All_l0 lo hi l hn l 0 rfl) fun k hk => by simp only [spec_l1All.f]; exact hk
theorem spec_grGood_eq (x y z : Int) : spec_grGood.f x y z = some (gridOk x y z) := by
  simp only [spec_grGood.f, spec_l1In_eq, Option.bind_some, decide_eq_true_eq, gridOk]
  by_cases hx : 1 ≤ x ∧ x ≤ 8
  · rw [if_pos hx]
    by_cases hy : 1 ≤ y ∧ y ≤ 6
    · rw [if_pos hy]
      by_cases hz : 1 ≤ z ∧ z ≤ 5
      · rw [if_pos hz, grid_wrap hx hy hz]; congr 1; simp [hx, hy, hz]
      · rw [if_neg hz]; congr 1; symm; simp; omega
    · rw [if_neg hy]; congr 1; symm; simp; omega
  · rw [if_neg hx]; congr 1; symm; simp; omega
theorem spec_grCount_eq (x y z : Int) (h : gridOk x y z = true) : spec_grCount.f x y z = some (x * y * z) := by
  have hb := grid_ok h
  simp only [spec_grCount.f]
  rw [grid_wrap hb.1 hb.2.1 hb.2.2.1]
theorem spec_moGood_ev (x y z : Int) (t g r : List Int) (ht : t.length ≤ 1048576) (hg : g.length ≤ 1048576) (hr : r.length ≤ 1048576) : Ev (fun k => spec_moGood.f k x y z t g r) (modelOk x y z t g r) :=
  (ev_and (spec_l1All_ev t 0 10000 (by omega)) <| ev_and (spec_l1All_ev g 0 1000 (by omega)) <| ev_one (spec_l1All_ev r 0 4 (by omega))).ev fun k ⟨h1, h2, h3⟩ => by
    simp only [spec_moGood.f, spec_grGood_eq, Option.bind_some, modelOk]
    by_cases h : gridOk x y z = true
    · rw [if_pos h, spec_grCount_eq x y z h, Option.bind_some, h1, h2, h3]
      simp only [Option.bind_some, h, Bool.true_and]
      by_cases e1 : (t.length : Int) = x * y * z
      · rw [if_pos e1]
        by_cases e2 : (g.length : Int) = x * y * z
        · rw [if_pos e2]
          by_cases e3 : (r.length : Int) = x * y * z
          · rw [if_pos e3, decide_eq_true ⟨e1, e2, e3⟩]
            cases allIn 0 10000 t <;> cases allIn 0 1000 g <;> simp
          · rw [if_neg e3, decide_eq_false (fun h => e3 h.2.2)]; rfl
        · rw [if_neg e2, decide_eq_false (fun h => e2 h.2.1)]; rfl
      · rw [if_neg e1, decide_eq_false (fun h => e1 h.1)]; rfl
    · rw [if_neg h]; simp [h]
theorem spec_bhTwo_ev (x y z : Int) (t g r : List Int) (x' y' z' : Int) (t' g' r' : List Int) (ht : t.length ≤ 1048576) (hg : g.length ≤ 1048576) (hr : r.length ≤ 1048576) (ht' : t'.length ≤ 1048576) (hg' : g'.length ≤ 1048576) (hr' : r'.length ≤ 1048576) : Ev (fun k => spec_bhTwo.f k x y z t g r x' y' z' t' g' r') (modelOk x y z t g r && (modelOk x' y' z' t' g' r' && (x == x' && (y == y' && (z == z'))))) :=
  (ev_and (spec_moGood_ev x y z t g r ht hg hr) <| ev_one (spec_moGood_ev x' y' z' t' g' r' ht' hg' hr')).ev fun k ⟨h1, h2⟩ => by
    simp only [spec_bhTwo.f, h1, h2, Option.bind_some]
    by_cases h : modelOk x y z t g r = true
    · rw [if_pos h, h]
      by_cases h' : modelOk x' y' z' t' g' r' = true
      · rw [if_pos h', h']; rfl
      · rw [if_neg h']; simp [h']
    · rw [if_neg h]; simp [h]
/-- The lists of a model that is good: their lengths and bounds. -/
theorem model_ok {x y z : Int} {t g r : List Int} (h : modelOk x y z t g r = true) : gridOk x y z = true ∧ ((t.length : Int) = x * y * z ∧ (g.length : Int) = x * y * z ∧ (r.length : Int) = x * y * z) ∧ allIn 0 10000 t = true ∧ allIn 0 1000 g = true ∧ allIn 0 4 r = true := by
  simp only [modelOk, Bool.and_eq_true, decide_eq_true_eq] at h
  exact ⟨h.1.1, h.1.2, h.2.1, h.2.2.1, h.2.2.2⟩
-- needs: model_facts
/-- The blocks, from i on, in which the lists differ. -/
def chg (t g r t' g' r' : List Int) : Nat → Nat → List Int → List Int
  | 0, _, o => o
  | m + 1, i, o => chg t g r t' g' r' m (i + 1) (if rd t i = rd t' i ∧ rd g i = rd g' i ∧ rd r i = rd r' i then o else o ++ [(i : Int)])
theorem chg_len (t g r t' g' r' : List Int) : ∀ (m i : Nat) (o : List Int), (chg t g r t' g' r' m i o).length ≤ o.length + m
  | 0, i, o => by simp [chg]
  | m + 1, i, o => by
    have h := chg_len t g r t' g' r' m (i + 1) (if rd t i = rd t' i ∧ rd g i = rd g' i ∧ rd r i = rd r' i then o else o ++ [(i : Int)])
    simp only [chg]
    split at h <;> rename_i hc
    · rw [if_pos hc]; omega
    · rw [if_neg hc]; rw [List.length_append] at h; simp only [List.length_cons, List.length_nil] at h; omega
def changed (x y z : Int) (t g r : List Int) (x' y' z' : Int) (t' g' r' : List Int) : List Int × Bool := if modelOk x y z t g r = true ∧ modelOk x' y' z' t' g' r' = true ∧ x = x' ∧ y = y' ∧ z = z' then (chg t g r t' g' r' t.length 0 [], true) else ([], false)
theorem two_len {x y z : Int} {t g r : List Int} {x' y' z' : Int} {t' g' r' : List Int} (h : modelOk x y z t g r = true ∧ modelOk x' y' z' t' g' r' = true ∧ x = x' ∧ y = y' ∧ z = z') : g.length = t.length ∧ r.length = t.length ∧ t'.length = t.length ∧ g'.length = t.length ∧ r'.length = t.length := by
  obtain ⟨_, l1, _⟩ := model_ok h.1
  obtain ⟨_, l2, _⟩ := model_ok h.2.1
  rw [← h.2.2.1, ← h.2.2.2.1, ← h.2.2.2.2] at l2
  generalize x * y * z = p at l1 l2
  omega
theorem changed_len (x y z : Int) (t g r : List Int) (x' y' z' : Int) (t' g' r' : List Int) (ht : t.length ≤ 1048576) (hg : g.length ≤ 1048576) (hr : r.length ≤ 1048576) (ht' : t'.length ≤ 1048576) (hg' : g'.length ≤ 1048576) (hr' : r'.length ≤ 1048576) : (changed x y z t g r x' y' z' t' g' r').1.length ≤ 1048576 := by
  unfold changed
  split
  · have := chg_len t g r t' g' r' t.length 0 []; simp only [List.length_nil] at this; simp only; omega
  · simp
theorem spec_ChangedBlocks_l0 (x y z : Int) (t g r : List Int) (x' y' z' : Int) (t' g' r' : List Int) (hn : t.length ≤ 1048576) (hg : g.length = t.length) (hr : r.length = t.length) (ht' : t'.length = t.length) (hg' : g'.length = t.length) (hr' : r'.length = t.length) : ∀ (m i : Nat) (o : List Int), i + m = t.length → o.length ≤ i →
    Ev (fun k => spec_ChangedBlocks.l0 k o (t.length : Int) i x y z t g r x' y' z' t' g' r') (chg t g r t' g' r' m i o, true)
  | 0, i, o, h, ho => Ev.next0 fun k => by
      simp only [spec_ChangedBlocks.l0, chg]
      rw [if_neg (by omega)]
  | m + 1, i, o, h, ho => by
      have ew := wrap_succ (i := i) (n := t.length) (by omega) (by omega)
      have hl : o.length < 17592186044416 := by omega
      have b0 : (i : Int) < (t.length : Int) := by omega
      have b1 : 0 ≤ (i : Int) := by omega
      have b2 : (i : Int) < (t'.length : Int) := by omega
      have b3 : (i : Int) < (g.length : Int) := by omega
      have b4 : (i : Int) < (g'.length : Int) := by omega
      have b5 : (i : Int) < (r.length : Int) := by omega
      have b6 : (i : Int) < (r'.length : Int) := by omega
      by_cases e : rd t i = rd t' i ∧ rd g i = rd g' i ∧ rd r i = rd r' i
      · refine Ev.next1 (spec_ChangedBlocks_l0 x y z t g r x' y' z' t' g' r' hn hg hr ht' hg' hr' m (i + 1) o (by omega) (by omega)) fun k hk => ?_
        simp only [spec_ChangedBlocks.l0, chg]
        rw [if_pos b0, if_pos b1, if_pos b0, if_pos b2, if_pos e.1, if_pos b3, if_pos b4, if_pos e.2.1, if_pos b5, if_pos b6, if_pos e.2.2, ew, if_pos e]
        exact hk
      · refine Ev.next1 (spec_ChangedBlocks_l0 x y z t g r x' y' z' t' g' r' hn hg hr ht' hg' hr' m (i + 1) (o ++ [(i : Int)]) (by omega) (by simp; omega)) fun k hk => ?_
        simp only [spec_ChangedBlocks.l0, chg]
        rw [if_pos b0, if_pos b1, if_pos b0, if_pos b2, if_neg e]
        by_cases e1 : rd t i = rd t' i
        · rw [if_pos e1, if_pos b3, if_pos b4]
          by_cases e2 : rd g i = rd g' i
          · rw [if_pos e2, if_pos b5, if_pos b6, if_neg (fun e3 => e ⟨e1, e2, e3⟩), if_pos hl, ew]; exact hk
          · rw [if_neg e2, if_pos hl, ew]; exact hk
        · rw [if_neg e1, if_pos hl, ew]; exact hk
theorem spec_ChangedBlocks_ev (x y z : Int) (t g r : List Int) (x' y' z' : Int) (t' g' r' : List Int) (ht : t.length ≤ 1048576) (hg : g.length ≤ 1048576) (hr : r.length ≤ 1048576) (ht' : t'.length ≤ 1048576) (hg' : g'.length ≤ 1048576) (hr' : r'.length ≤ 1048576) : Ev (fun k => spec_ChangedBlocks.f k x y z t g r x' y' z' t' g' r') (changed x y z t g r x' y' z' t' g' r') := by
  have h0 := spec_bhTwo_ev x y z t g r x' y' z' t' g' r' ht hg hr ht' hg' hr'
  by_cases h : modelOk x y z t g r = true ∧ modelOk x' y' z' t' g' r' = true ∧ x = x' ∧ y = y' ∧ z = z'
  · obtain ⟨q1, q2, q3, q4, q5⟩ := two_len h
    refine (ev_and h0 <| ev_one (spec_ChangedBlocks_l0 x y z t g r x' y' z' t' g' r' ht q1 q2 q3 q4 q5 t.length 0 [] (by omega) (by simp))).ev fun k ⟨k1, k2⟩ => ?_
    simp only [spec_ChangedBlocks.f, k1, Option.bind_some]
    rw [if_pos (by simp only [h.1, h.2.1, Bool.true_and]; simp [h.2.2]), changed, if_pos h]; exact k2
  · refine (ev_one h0).ev fun k k1 => ?_
    simp only [spec_ChangedBlocks.f, k1, Option.bind_some]
    rw [if_neg (by simpa using h), changed, if_neg h]
theorem impl_IsGrid_eq (x y z : Int) : impl_IsGrid.f x y z = some (gridOk x y z) := by
  simp only [impl_IsGrid.f, gridOk]
  by_cases hx : 1 ≤ x ∧ x ≤ 8
  · rw [if_pos (by omega), if_pos (by omega)]
    by_cases hy : 1 ≤ y ∧ y ≤ 6
    · rw [if_pos (by omega), if_pos (by omega)]
      by_cases hz : 1 ≤ z ∧ z ≤ 5
      · rw [if_pos (by omega), if_pos (by omega), grid_wrap hx hy hz]; congr 1; simp [hx, hy, hz]
      · have e : decide (1 ≤ x ∧ x ≤ 8 ∧ 1 ≤ y ∧ y ≤ 6 ∧ 1 ≤ z ∧ z ≤ 5 ∧ x * y * z ≤ 120) = false := by simp; omega
        rw [e]; split
        · rw [if_neg (by omega)]
        · rfl
    · have e : decide (1 ≤ x ∧ x ≤ 8 ∧ 1 ≤ y ∧ y ≤ 6 ∧ 1 ≤ z ∧ z ≤ 5 ∧ x * y * z ≤ 120) = false := by simp; omega
      rw [e]; split
      · rw [if_neg (by omega)]
      · rfl
  · have e : decide (1 ≤ x ∧ x ≤ 8 ∧ 1 ≤ y ∧ y ≤ 6 ∧ 1 ≤ z ∧ z ≤ 5 ∧ x * y * z ≤ 120) = false := by simp; omega
    rw [e]; split
    · rw [if_neg (by omega)]
    · rfl
theorem impl_blocksOf_eq (x y z : Int) (h : gridOk x y z = true) : impl_blocksOf.f x y z = some (x * y * z) := by
  have hb := grid_ok h
  simp only [impl_blocksOf.f]
  rw [grid_wrap hb.1 hb.2.1 hb.2.2.1]
theorem impl_IsModel_l0 (x y z : Int) (t g r : List Int) (n : Nat) (hn : n ≤ 1048576) (ht : t.length = n) (hg : g.length = n) (hr : r.length = n) : ∀ (ts gs rs : List Int) (i : Nat), t.drop i = ts → g.drop i = gs → r.drop i = rs → Ev (fun k => impl_IsModel.l0 k (n : Int) i x y z t g r) (allIn 0 10000 ts && (allIn 0 1000 gs && allIn 0 4 rs))
  | [], gs, rs, i, h, hg', hr' => Ev.next0 fun k => by
      have h0 := drop_nil h
      have e1 : gs = [] := by rw [← hg']; exact List.drop_of_length_le (by omega)
      have e2 : rs = [] := by rw [← hr']; exact List.drop_of_length_le (by omega)
      subst e1 e2
      simp only [impl_IsModel.l0, allIn]
      rw [if_neg (by omega)]; rfl
  | a :: ts, [], rs, i, h, hg', hr' => by have h1 := (drop_cons h).1; have h2 := drop_nil hg'; omega
  | a :: ts, b :: gs, [], i, h, hg', hr' => by have h1 := (drop_cons h).1; have h2 := drop_nil hr'; omega
  | a :: ts, b :: gs, c :: rs, i, h, hg', hr' => by
      obtain ⟨h1, h2, h3⟩ := drop_cons h
      obtain ⟨g1, g2, g3⟩ := drop_cons hg'
      obtain ⟨r1, r2, r3⟩ := drop_cons hr'
      have ea := rd_drop h
      have eb := rd_drop hg'
      have ec := rd_drop hr'
      refine Ev.next1 (impl_IsModel_l0 x y z t g r n hn ht hg hr ts gs rs (i + 1) h3 g3 r3) fun k hk => ?_
      simp only [impl_IsModel.l0, ea, eb, ec]
      rw [if_pos (by omega), if_pos (by omega), if_pos (by omega)]
      by_cases ka : 0 ≤ a ∧ a ≤ 10000
      · rw [if_neg (by omega), if_neg (by omega), if_pos (by omega)]
        by_cases kb : 0 ≤ b ∧ b ≤ 1000
        · rw [if_neg (by omega), if_neg (by omega), if_pos (by omega)]
          by_cases kc : 0 ≤ c ∧ c ≤ 4
          · rw [if_neg (by omega), if_neg (by omega), wrap_succ h1 (by omega), hk]
            simp [allIn, ka, kb, kc]
          · have e : (allIn 0 10000 (a :: ts) && (allIn 0 1000 (b :: gs) && allIn 0 4 (c :: rs))) = false := by simp [allIn, kc]
            rw [e]; split
            · rfl
            · rw [if_pos (by omega)]
        · have e : (allIn 0 10000 (a :: ts) && (allIn 0 1000 (b :: gs) && allIn 0 4 (c :: rs))) = false := by simp [allIn, kb]
          rw [e]; split
          · rfl
          · rw [if_pos (by omega)]
      · have e : (allIn 0 10000 (a :: ts) && (allIn 0 1000 (b :: gs) && allIn 0 4 (c :: rs))) = false := by simp [allIn, ka]
        rw [e]; split
        · rfl
        · rw [if_pos (by omega)]
theorem impl_IsModel_ev (x y z : Int) (t g r : List Int) (ht : t.length ≤ 1048576) (hg : g.length ≤ 1048576) (hr : r.length ≤ 1048576) : Ev (fun k => impl_IsModel.f k x y z t g r) (modelOk x y z t g r) := by
  by_cases h : gridOk x y z = true
  · have no : ∀ n : Int, Ev (fun k => impl_IsModel.j0 k n true x y z t g r) false := fun n => Ev.next0 fun k => by simp [impl_IsModel.j0]
    by_cases e : (t.length : Int) = x * y * z ∧ (g.length : Int) = x * y * z ∧ (r.length : Int) = x * y * z
    · obtain ⟨e1, e2, e3⟩ := e
      have h1 : Ev (fun k => impl_IsModel.j0 k (x * y * z) false x y z t g r) (allIn 0 10000 t && (allIn 0 1000 g && allIn 0 4 r)) := by
        refine Ev.next1 (impl_IsModel_l0 x y z t g r t.length ht rfl (by omega) (by omega) t g r 0 rfl rfl rfl) fun k hk => ?_
        simp only [impl_IsModel.j0]
        rw [if_neg (by simp), ← e1]; exact hk
      refine Ev.of1 h1 fun k hk => ?_
      simp only [impl_IsModel.f, impl_IsGrid_eq, Option.bind_some, impl_blocksOf_eq x y z h]
      rw [if_pos h, if_pos e1, if_pos e2, show ((r.length : Int) != x * y * z) = false by simp [e3], hk]
      simp [modelOk, h, e1, e2, e3]
    · refine Ev.of1 (no (x * y * z)) fun k hk => ?_
      have em : modelOk x y z t g r = false := by
        simp only [modelOk, decide_eq_false e, Bool.and_false, Bool.false_and]
      simp only [impl_IsModel.f, impl_IsGrid_eq, Option.bind_some, impl_blocksOf_eq x y z h]
      rw [if_pos h, em]
      by_cases e1 : (t.length : Int) = x * y * z
      · rw [if_pos e1]
        by_cases e2 : (g.length : Int) = x * y * z
        · rw [if_pos e2, show ((r.length : Int) != x * y * z) = true by
            have e3 : ¬ (r.length : Int) = x * y * z := fun e3 => e ⟨e1, e2, e3⟩
            simpa using e3, hk]
        · rw [if_neg e2, hk]
      · rw [if_neg e1, hk]
  · refine Ev.all fun k => ?_
    simp only [impl_IsModel.f, impl_IsGrid_eq, Option.bind_some]
    rw [if_neg h]; simp [modelOk, h]
theorem impl_areTwins_ev (x y z : Int) (t g r : List Int) (x' y' z' : Int) (t' g' r' : List Int) (ht : t.length ≤ 1048576) (hg : g.length ≤ 1048576) (hr : r.length ≤ 1048576) (ht' : t'.length ≤ 1048576) (hg' : g'.length ≤ 1048576) (hr' : r'.length ≤ 1048576) : Ev (fun k => impl_areTwins.f k x y z t g r x' y' z' t' g' r') (modelOk x y z t g r && (modelOk x' y' z' t' g' r' && (x == x' && (y == y' && (z == z'))))) :=
  (ev_and (impl_IsModel_ev x y z t g r ht hg hr) <| ev_one (impl_IsModel_ev x' y' z' t' g' r' ht' hg' hr')).ev fun k ⟨h1, h2⟩ => by
    simp only [impl_areTwins.f, h1, h2, Option.bind_some]
    by_cases h : modelOk x y z t g r = true
    · rw [if_pos h, h]
      by_cases h' : modelOk x' y' z' t' g' r' = true
      · rw [if_pos h', h']; rfl
      · rw [if_neg h']; simp [h']
    · rw [if_neg h]; simp [h]
-- needs: spec_ChangedBlocks
theorem impl_ChangedBlocks_l0 (x y z : Int) (t g r : List Int) (x' y' z' : Int) (t' g' r' : List Int) (hn : t.length ≤ 1048576) (hg : g.length = t.length) (hr : r.length = t.length) (ht' : t'.length = t.length) (hg' : g'.length = t.length) (hr' : r'.length = t.length) : ∀ (m i : Nat) (o : List Int), i + m = t.length → o.length ≤ i →
    Ev (fun k => impl_ChangedBlocks.l0 k o (t.length : Int) i x y z t g r x' y' z' t' g' r') (chg t g r t' g' r' m i o, true)
  | 0, i, o, h, ho => Ev.next0 fun k => by
      simp only [impl_ChangedBlocks.l0, chg]
      rw [if_neg (by omega)]
  | m + 1, i, o, h, ho => by
      have ew := wrap_succ (i := i) (n := t.length) (by omega) (by omega)
      have hl : o.length < 17592186044416 := by omega
      have b0 : (i : Int) < (t.length : Int) := by omega
      have b1 : 0 ≤ (i : Int) := by omega
      have b2 : (i : Int) < (t'.length : Int) := by omega
      have b3 : (i : Int) < (g.length : Int) := by omega
      have b4 : (i : Int) < (g'.length : Int) := by omega
      have b5 : (i : Int) < (r.length : Int) := by omega
      have b6 : (i : Int) < (r'.length : Int) := by omega
      by_cases e : rd t i = rd t' i ∧ rd g i = rd g' i ∧ rd r i = rd r' i
      · refine Ev.next1 (impl_ChangedBlocks_l0 x y z t g r x' y' z' t' g' r' hn hg hr ht' hg' hr' m (i + 1) o (by omega) (by omega)) fun k hk => ?_
        simp only [impl_ChangedBlocks.l0, chg]
        rw [if_pos b0, if_pos b1, if_pos b0, if_pos b2, if_pos e.1, if_pos b3, if_pos b4, if_pos e.2.1, if_pos b5, if_pos b6, if_pos e.2.2, ew, if_pos e]
        exact hk
      · refine Ev.next1 (impl_ChangedBlocks_l0 x y z t g r x' y' z' t' g' r' hn hg hr ht' hg' hr' m (i + 1) (o ++ [(i : Int)]) (by omega) (by simp; omega)) fun k hk => ?_
        simp only [impl_ChangedBlocks.l0, chg]
        rw [if_pos b0, if_pos b1, if_pos b0, if_pos b2, if_neg e]
        by_cases e1 : rd t i = rd t' i
        · rw [if_pos e1, if_pos b3, if_pos b4]
          by_cases e2 : rd g i = rd g' i
          · rw [if_pos e2, if_pos b5, if_pos b6, if_neg (fun e3 => e ⟨e1, e2, e3⟩), if_pos hl, ew]; exact hk
          · rw [if_neg e2, if_pos hl, ew]; exact hk
        · rw [if_neg e1, if_pos hl, ew]; exact hk
theorem impl_ChangedBlocks_ev (x y z : Int) (t g r : List Int) (x' y' z' : Int) (t' g' r' : List Int) (ht : t.length ≤ 1048576) (hg : g.length ≤ 1048576) (hr : r.length ≤ 1048576) (ht' : t'.length ≤ 1048576) (hg' : g'.length ≤ 1048576) (hr' : r'.length ≤ 1048576) : Ev (fun k => impl_ChangedBlocks.f k x y z t g r x' y' z' t' g' r') (changed x y z t g r x' y' z' t' g' r') := by
  have h0 := impl_areTwins_ev x y z t g r x' y' z' t' g' r' ht hg hr ht' hg' hr'
  by_cases h : modelOk x y z t g r = true ∧ modelOk x' y' z' t' g' r' = true ∧ x = x' ∧ y = y' ∧ z = z'
  · obtain ⟨q1, q2, q3, q4, q5⟩ := two_len h
    refine (ev_and h0 <| ev_one (impl_ChangedBlocks_l0 x y z t g r x' y' z' t' g' r' ht q1 q2 q3 q4 q5 t.length 0 [] (by omega) (by simp))).ev fun k ⟨k1, k2⟩ => ?_
    simp only [impl_ChangedBlocks.f, k1, Option.bind_some]
    rw [if_pos (by simp only [h.1, h.2.1, Bool.true_and]; simp [h.2.2]), changed, if_pos h]; exact k2
  · refine (ev_one h0).ev fun k k1 => ?_
    simp only [impl_ChangedBlocks.f, k1, Option.bind_some]
    rw [if_neg (by simpa using h), changed, if_neg h]
theorem laws_markIntS_l0 (n : Nat) (c : Int) (hc : 0 ≤ c) (hb : c + n ≤ 9223372036854775807) : ∀ (d i : Nat) (x : List Int), i + d = n → x.length = n → x.take i = (markI n c).take i → Ev (fun k => laws_markIntS.l0 k x (c + (i : Int)) i) (c + (n : Int), markI n c)
  | 0, i, x, hd, hl, ht => Ev.next0 fun k => by
      simp only [laws_markIntS.l0]
      rw [if_neg (by omega), copy_end (by rw [hl, markI_length]) ht (by rw [markI_length]; omega), show i = n by omega]
  | d + 1, i, x, hd, hl, ht => by
      obtain ⟨c1, c2⟩ := copy_step (markI_get n c i (by omega)) (by rw [hl, markI_length]) ht
      refine Ev.next1 (laws_markIntS_l0 n c hc hb d (i + 1) _ (by omega) (by rw [c1, markI_length]) c2) fun k hk => ?_
      simp only [laws_markIntS.l0]
      rw [if_pos (by omega), if_pos (by omega), wrap_succ (n := n) (by omega) (by omega), wrap_id (by omega) (by omega), toNat_cast, show c + (i : Int) + 1 = c + ((i + 1 : Nat) : Int) by push_cast; omega]
      exact hk
theorem laws_markIntS_ev (x : List Int) (c : Int) (hc : 0 ≤ c) (hb : c + x.length ≤ 9223372036854775807) : Ev (fun k => laws_markIntS.f k x c) (c + (x.length : Int), markI x.length c) :=
  Ev.of1 (laws_markIntS_l0 x.length c hc hb x.length 0 x (by omega) rfl rfl) fun k hk => by
    simp only [laws_markIntS.f]
    rw [show c + ((0 : Nat) : Int) = c by omega] at hk
    exact hk
theorem laws_markModel_ev (x y z : Int) (t g r : List Int) (ht : t.length ≤ 1048576) (hg : g.length ≤ 1048576) (hr : r.length ≤ 1048576) (c : Int) (hc : 0 ≤ c) (hb : c ≤ 9223372036850000000) : Ev (fun k => laws_markModel.f k x y z t g r c) (c + (t.length : Int) + (g.length : Int) + (r.length : Int), markI t.length c, markI g.length (c + (t.length : Int)), markI r.length (c + (t.length : Int) + (g.length : Int))) :=
  (ev_and (laws_markIntS_ev t c hc (by omega)) <| ev_and (laws_markIntS_ev g (c + (t.length : Int)) (by omega) (by omega)) <| ev_one (laws_markIntS_ev r (c + (t.length : Int) + (g.length : Int)) (by omega) (by omega))).ev fun k ⟨h1, h2, h3⟩ => by
    simp only [laws_markModel.f, h1, h2, h3, Option.bind_some]
theorem laws_heldIntS_l0 (n : Nat) (c : Int) (hc : 0 ≤ c) (hb : c + n ≤ 9223372036854775807) : ∀ (d i : Nat), i + d = n → Ev (fun k => laws_heldIntS.l0 k (markI n c) (c + (i : Int)) i) (c + (n : Int))
  | 0, i, hd => Ev.next0 fun k => by
      simp only [laws_heldIntS.l0]
      rw [if_neg (by rw [markI_length]; omega), show i = n by omega]
  | d + 1, i, hd => by
      refine Ev.next1 (laws_heldIntS_l0 n c hc hb d (i + 1) (by omega)) fun k hk => ?_
      have e := rd_get (markI_get n c i (by omega))
      simp only [laws_heldIntS.l0, e]
      rw [if_pos (by rw [markI_length]; omega), if_pos (by omega), if_pos (by simp), wrap_succ (n := n) (by omega) (by omega), wrap_id (by omega) (by omega), show c + (i : Int) + 1 = c + ((i + 1 : Nat) : Int) by push_cast; omega]
      exact hk
theorem laws_heldIntS_ev (n : Nat) (c : Int) (hc : 0 ≤ c) (hb : c + n ≤ 9223372036854775807) : Ev (fun k => laws_heldIntS.f k (markI n c) c) (c + (n : Int)) :=
  Ev.of1 (laws_heldIntS_l0 n c hc hb n 0 (by omega)) fun k hk => by
    simp only [laws_heldIntS.f]
    rw [show c + ((0 : Nat) : Int) = c by omega] at hk
    exact hk
theorem j4_ev (n : Nat) (hn : n ≤ 1048576) : Ev (fun k => laws_FnExactChangedBlocks.j4 k (markI n 1) (1 + (n : Int)) false) true :=
  (ev_one (laws_heldIntS_ev n 1 (by omega) (by omega))).next fun k h1 => by
    simp only [laws_FnExactChangedBlocks.j4, h1, Option.bind_some]
    rw [if_neg (by simp), if_neg (by omega), if_pos (by simp)]
theorem j3_ev (x y z : Int) (t g r : List Int) (x' y' z' : Int) (t' g' r' : List Int) (ht : t.length ≤ 1048576) (hg : g.length ≤ 1048576) (hr : r.length ≤ 1048576) (ht' : t'.length ≤ 1048576) (hg' : g'.length ≤ 1048576) (hr' : r'.length ≤ 1048576) (v : List Int × Bool) (hv : v = changed x y z t g r x' y' z' t' g' r') : Ev (fun k => laws_FnExactChangedBlocks.j3 k v.1 v.2 v.1 false x y z t g r x' y' z' t' g' r') true := by
  have hl := changed_len x y z t g r x' y' z' t' g' r' ht hg hr ht' hg' hr'
  have hi := impl_ChangedBlocks_ev x y z t g r x' y' z' t' g' r' ht hg hr ht' hg' hr'
  rw [← hv] at hl hi
  refine (ev_and (laws_markIntS_ev v.1 1 (by omega) (by omega)) <| ev_and (laws_heldIntS_ev v.1.length 1 (by omega) (by omega)) <| ev_and (laws_toModel_ev x y z t g r ht hg hr) <| ev_and (laws_toModel_ev x' y' z' t' g' r' ht' hg' hr') <| ev_and hi <| ev_and (laws_eqIntS_ev v.1 (by omega)) <| ev_one (j4_ev v.1.length hl)).next fun k ⟨h1, h2, h3, h4, h5, h6, h7⟩ => ?_
  simp only [laws_FnExactChangedBlocks.j3, h1, h2, h3, h4, h5, h6, Option.bind_some]
  rw [if_neg (by simp), if_neg (by omega), if_pos (by simp), if_pos (by simp), bne_self_eq_false]; exact h7
theorem j2_ev (x y z : Int) (t g r : List Int) (x' y' z' : Int) (t' g' r' : List Int) (ht : t.length ≤ 1048576) (hg : g.length ≤ 1048576) (hr : r.length ≤ 1048576) (ht' : t'.length ≤ 1048576) (hg' : g'.length ≤ 1048576) (hr' : r'.length ≤ 1048576) (v : List Int × Bool) (hv : v = changed x y z t g r x' y' z' t' g' r') : Ev (fun k => laws_FnExactChangedBlocks.j2 k v.1 v.2 v.1 v.2 x y z t g r x' y' z' t' g' r' x y z t g r x' y' z' t' g' r') true := by
  have hl := changed_len x y z t g r x' y' z' t' g' r' ht hg hr ht' hg' hr'
  rw [← hv] at hl
  refine (ev_and (laws_markModel_ev x y z t g r ht hg hr 1 (by omega) (by omega)) <| ev_and (laws_markModel_ev x' y' z' t' g' r' ht' hg' hr' (1 + (t.length : Int) + (g.length : Int) + (r.length : Int)) (by omega) (by omega)) <| ev_and (laws_eqIntS_ev v.1 (by omega)) <| ev_one (j3_ev x y z t g r x' y' z' t' g' r' ht hg hr ht' hg' hr' v hv)).next fun k ⟨h1, h2, h3, h4⟩ => ?_
  simp only [laws_FnExactChangedBlocks.j2, h1, h2, h3, Option.bind_some]
  rw [if_neg (by omega), if_pos (by simp), bne_self_eq_false]; exact h4
theorem j1_ev (x y z : Int) (t g r : List Int) (x' y' z' : Int) (t' g' r' : List Int) (ht : t.length ≤ 1048576) (hg : g.length ≤ 1048576) (hr : r.length ≤ 1048576) (ht' : t'.length ≤ 1048576) (hg' : g'.length ≤ 1048576) (hr' : r'.length ≤ 1048576) (v : List Int × Bool) (hv : v = changed x y z t g r x' y' z' t' g' r') : Ev (fun k => laws_FnExactChangedBlocks.j1 k v.1 v.2 v.1 v.2 x y z t g r x' y' z' t' g' r' x y z t g r x' y' z' t' g' r') true :=
  (ev_and (laws_toModel_ev x' y' z' t' g' r' ht' hg' hr') <| ev_and (laws_eqModel_ev x' y' z' t' g' r' ht' hg' hr') <| ev_one (j2_ev x y z t g r x' y' z' t' g' r' ht hg hr ht' hg' hr' v hv)).next fun k ⟨h1, h2, h3⟩ => by
    simp only [laws_FnExactChangedBlocks.j1, h1, h2, Option.bind_some]
    rw [if_pos (by simp)]; exact h3
theorem j0_ev (x y z : Int) (t g r : List Int) (x' y' z' : Int) (t' g' r' : List Int) (ht : t.length ≤ 1048576) (hg : g.length ≤ 1048576) (hr : r.length ≤ 1048576) (ht' : t'.length ≤ 1048576) (hg' : g'.length ≤ 1048576) (hr' : r'.length ≤ 1048576) (v : List Int × Bool) (hv : v = changed x y z t g r x' y' z' t' g' r') : Ev (fun k => laws_FnExactChangedBlocks.j0 k v.1 v.2 v.1 v.2 false x y z t g r x' y' z' t' g' r' x y z t g r x' y' z' t' g' r') true :=
  (ev_and (laws_toModel_ev x y z t g r ht hg hr) <| ev_and (laws_eqModel_ev x y z t g r ht hg hr) <| ev_one (j1_ev x y z t g r x' y' z' t' g' r' ht hg hr ht' hg' hr' v hv)).next fun k ⟨h1, h2, h3⟩ => by
    simp only [laws_FnExactChangedBlocks.j0, h1, h2, Option.bind_some]
    rw [if_neg (by simp), if_pos (by simp)]; exact h3
theorem FnExactChangedBlocks : Stat.FnExactChangedBlocks := by
  intro x y z t g r x' y' z' t' g' r' _ _ _ ht hg hr _ _ _ ht' hg' hr'
  refine Ev.rounds ?_
  have hs := laws_szModel_eq x y z t g r 1048576 (by omega) (by omega) ht.1 hg.1 hr.1
  by_cases hq : (1048576 : Int) < ((t.length + g.length + r.length : Nat) : Int)
  · refine Ev.all fun k => ?_
    simp only [laws_FnExactChangedBlocks.f, hs, Option.bind_some]
    rw [left_lt hq, if_pos (by omega)]
  have hl : left 1048576 (t.length + g.length + r.length) = 1048576 - ((t.length + g.length + r.length : Nat) : Int) := left_ge (by omega)
  have hs' := laws_szModel_eq x' y' z' t' g' r' (1048576 - ((t.length + g.length + r.length : Nat) : Int)) (by omega) (by omega) ht'.1 hg'.1 hr'.1
  by_cases hp : 1048576 - ((t.length + g.length + r.length : Nat) : Int) < ((t'.length + g'.length + r'.length : Nat) : Int)
  · refine Ev.all fun k => ?_
    simp only [laws_FnExactChangedBlocks.f, hs, Option.bind_some]
    rw [hl, if_neg (by omega), hs', Option.bind_some, left_lt hp, if_pos (by omega)]
  have h1 : t.length ≤ 1048576 := by omega
  have h2 : g.length ≤ 1048576 := by omega
  have h3 : r.length ≤ 1048576 := by omega
  have h4 : t'.length ≤ 1048576 := by omega
  have h5 : g'.length ≤ 1048576 := by omega
  have h6 : r'.length ≤ 1048576 := by omega
  refine (ev_and (laws_toModel_ev x y z t g r h1 h2 h3) <| ev_and (laws_toModel_ev x' y' z' t' g' r' h4 h5 h6) <| ev_and (spec_ChangedBlocks_ev x y z t g r x' y' z' t' g' r' h1 h2 h3 h4 h5 h6) <| ev_and (impl_ChangedBlocks_ev x y z t g r x' y' z' t' g' r' h1 h2 h3 h4 h5 h6) <| ev_and (laws_eqIntS_ev (changed x y z t g r x' y' z' t' g' r').1 (by have := changed_len x y z t g r x' y' z' t' g' r' h1 h2 h3 h4 h5 h6; omega)) <|
    ev_one (j0_ev x y z t g r x' y' z' t' g' r' h1 h2 h3 h4 h5 h6 _ rfl)).ev fun k ⟨a1, a2, a3, a4, a5, a6⟩ => ?_
  simp only [laws_FnExactChangedBlocks.f, hs, Option.bind_some]
  rw [hl, if_neg (by omega), hs', Option.bind_some, left_ge (by omega), if_neg (by omega)]
  simp only [a1, a2, a3, a4, a5, Option.bind_some]
  rw [if_pos (by simp), bne_self_eq_false]; exact a6
end Go.Proofs.Ytoaglacdklmafaa.PureFnExactChangedBlocks
namespace Go.Proofs.Ytoaglacdklmafaa.Pure
theorem FnExactChangedBlocks : Stat.FnExactChangedBlocks := PureFnExactChangedBlocks.FnExactChangedBlocks
end Go.Proofs.Ytoaglacdklmafaa.Pure
