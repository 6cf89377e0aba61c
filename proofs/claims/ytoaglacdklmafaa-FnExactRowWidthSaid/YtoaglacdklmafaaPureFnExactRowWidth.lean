/- The law FnExactRowWidth over numbers and lists: it is true of every input. -/
import Derived.Test.YtoaglacdklmafaaStatFnExactRowWidth
import Derived.Test.YtoaglacdklmafaaWMore
set_option linter.unusedVariables false
set_option linter.unusedSimpArgs false
namespace Go.Proofs.Ytoaglacdklmafaa.Kit
open Go.RowKit Go.Proofs.YtoaglacdklmafaaW.PrintWords Go.Proofs.YtoaglacdklmafaaW.PrintMore

/-! ### Rounds -/
theorem Ev.all {α : Type} {g : Nat → Option α} {r : α} (h : ∀ k, g k = some r) : Ev g r := ⟨0, fun k _ => h k⟩
theorem Ev.of1 {α β : Type} {g : Nat → Option α} {f : Nat → Option β} {r : α} {b : β} (h : Ev f b) (k : ∀ k, f k = some b → g k = some r) : Ev g r := by
  obtain ⟨K, h⟩ := h; exact ⟨K, fun n hn => k n (h n hn)⟩
theorem Ev.of2 {α β γ : Type} {g : Nat → Option α} {f : Nat → Option β} {f' : Nat → Option γ} {r : α} {b : β} {c : γ} (h : Ev f b) (h' : Ev f' c) (k : ∀ k, f k = some b → f' k = some c → g k = some r) : Ev g r := by
  obtain ⟨K, h⟩ := h; obtain ⟨K', h'⟩ := h'; exact ⟨K + K', fun n hn => k n (h n (by omega)) (h' n (by omega))⟩
theorem Ev.of3 {α β γ δ : Type} {g : Nat → Option α} {f : Nat → Option β} {f' : Nat → Option γ} {f'' : Nat → Option δ} {r : α} {b : β} {c : γ} {d : δ} (h : Ev f b) (h' : Ev f' c) (h'' : Ev f'' d)
    (k : ∀ k, f k = some b → f' k = some c → f'' k = some d → g k = some r) : Ev g r := by
  obtain ⟨K, h⟩ := h; obtain ⟨K', h'⟩ := h'; obtain ⟨K'', h''⟩ := h''
  exact ⟨K + K' + K'', fun n hn => k n (h n (by omega)) (h' n (by omega)) (h'' n (by omega))⟩
/-- Two at once: a pair of facts for one number of rounds. -/
def Both {α β : Type} (f : Nat → Option α) (g : Nat → Option β) (a : α) (b : β) : Prop := ∃ K, ∀ k, K ≤ k → f k = some a ∧ g k = some b
theorem Ev.next0 {α : Type} {g : Nat → Option α} {r : α} (h : ∀ k, g (k + 1) = some r) : Ev g r :=
  ⟨1, fun n hn => by obtain ⟨m, rfl⟩ : ∃ m, n = m + 1 := ⟨n - 1, by omega⟩; exact h m⟩
theorem Ev.next1 {α β : Type} {g : Nat → Option α} {f : Nat → Option β} {r : α} {b : β} (h : Ev f b) (k : ∀ k, f k = some b → g (k + 1) = some r) : Ev g r := by
  obtain ⟨K, h⟩ := h
  exact ⟨K + 1, fun n hn => by obtain ⟨m, rfl⟩ : ∃ m, n = m + 1 := ⟨n - 1, by omega⟩; exact k m (h m (by omega))⟩
theorem Ev.next2 {α β γ : Type} {g : Nat → Option α} {f : Nat → Option β} {f' : Nat → Option γ} {r : α} {b : β} {c : γ} (h : Ev f b) (h' : Ev f' c) (k : ∀ k, f k = some b → f' k = some c → g (k + 1) = some r) : Ev g r := by
  obtain ⟨K, h⟩ := h; obtain ⟨K', h'⟩ := h'
  exact ⟨K + K' + 1, fun n hn => by obtain ⟨m, rfl⟩ : ∃ m, n = m + 1 := ⟨n - 1, by omega⟩; exact k m (h m (by omega)) (h' m (by omega))⟩
theorem Ev.next3 {α β γ δ : Type} {g : Nat → Option α} {f : Nat → Option β} {f' : Nat → Option γ} {f'' : Nat → Option δ} {r : α} {b : β} {c : γ} {d : δ} (h : Ev f b) (h' : Ev f' c) (h'' : Ev f'' d)
    (k : ∀ k, f k = some b → f' k = some c → f'' k = some d → g (k + 1) = some r) : Ev g r := by
  obtain ⟨K, h⟩ := h; obtain ⟨K', h'⟩ := h'; obtain ⟨K'', h''⟩ := h''
  exact ⟨K + K' + K'' + 1, fun n hn => by obtain ⟨m, rfl⟩ : ∃ m, n = m + 1 := ⟨n - 1, by omega⟩; exact k m (h m (by omega)) (h' m (by omega)) (h'' m (by omega))⟩
theorem Ev.uniq {α : Type} {g : Nat → Option α} {r s : α} (h : Ev g r) (k : Ev g s) : r = s := by
  obtain ⟨K, h⟩ := h; obtain ⟨K', k⟩ := k
  have a := h (K + K') (by omega); have b := k (K + K') (by omega)
  rw [a] at b; exact Option.some.inj b

/-- From some number of rounds on. -/
def Evt (p : Nat → Prop) : Prop := ∃ K, ∀ k, K ≤ k → p k
theorem ev_one {α : Type} {f : Nat → Option α} {a : α} (h : Ev f a) : Evt (fun k => f k = some a) := h
theorem ev_and {α : Type} {f : Nat → Option α} {a : α} {p : Nat → Prop} (h : Ev f a) (h' : Evt p) : Evt (fun k => f k = some a ∧ p k) := by
  obtain ⟨K, h⟩ := h; obtain ⟨K', h'⟩ := h'; exact ⟨K + K', fun n hn => ⟨h n (by omega), h' n (by omega)⟩⟩
theorem Evt.ev {α : Type} {g : Nat → Option α} {r : α} {p : Nat → Prop} (h : Evt p) (k : ∀ k, p k → g k = some r) : Ev g r := by
  obtain ⟨K, h⟩ := h; exact ⟨K, fun n hn => k n (h n hn)⟩
theorem Evt.next {α : Type} {g : Nat → Option α} {r : α} {p : Nat → Prop} (h : Evt p) (k : ∀ k, p k → g (k + 1) = some r) : Ev g r := by
  obtain ⟨K, h⟩ := h
  exact ⟨K + 1, fun n hn => by obtain ⟨m, rfl⟩ : ∃ m, n = m + 1 := ⟨n - 1, by omega⟩; exact k m (h m (by omega))⟩

/-! ### Whole numbers -/
theorem wrap_id {x : Int} (h0 : -9223372036854775808 ≤ x) (h1 : x ≤ 9223372036854775807) : wrap64 x = x := by unfold wrap64; omega
theorem wrap_succ {i n : Nat} (h : i < n) (hn : n ≤ 9223372036854775807) : wrap64 ((i : Int) + 1) = ((i + 1 : Nat) : Int) := by unfold wrap64; omega
theorem toNat_cast (i : Nat) : ((i : Int)).toNat = i := by omega

theorem mx_eq (a b : Int) : mx a b = max a b := by unfold mx; split <;> omega
theorem mn_eq (a b : Int) : mn a b = min a b := by unfold mn; split <;> omega

/-! ### Lists from an index on -/
theorem drop_cons {α : Type} {xs ys : List α} {y : α} {i : Nat} (h : xs.drop i = y :: ys) : i < xs.length ∧ xs[i]? = some y ∧ xs.drop (i + 1) = ys := by
  have hlt : i < xs.length := by
    by_cases hlt : i < xs.length
    · exact hlt
    · rw [List.drop_of_length_le (by omega)] at h; cases h
  rw [List.drop_eq_getElem_cons hlt] at h
  injection h with h1 h2
  exact ⟨hlt, by rw [List.getElem?_eq_getElem hlt, h1], h2⟩
theorem drop_nil {α : Type} {xs : List α} {i : Nat} (h : xs.drop i = []) : xs.length ≤ i := by simpa using h
theorem getD_drop {α : Type} {xs ys : List α} {y d : α} {i : Nat} (h : xs.drop i = y :: ys) : xs.getD ((i : Int)).toNat d = y := by
  rw [toNat_cast, List.getD_eq_getElem?_getD, (drop_cons h).2.1]; rfl
theorem rd_drop {xs ys : List Int} {y : Int} {i : Nat} (h : xs.drop i = y :: ys) : rd xs (i : Int) = y := getD_drop h
theorem rdOf_drop {α : Type} {xs ys : List α} {y d : α} {i : Nat} (h : xs.drop i = y :: ys) : rdOf d xs (i : Int) = y := getD_drop h
theorem getD_get {α : Type} {xs : List α} {y d : α} {i : Nat} (h : xs[i]? = some y) : xs.getD ((i : Int)).toNat d = y := by
  rw [toNat_cast, List.getD_eq_getElem?_getD, h]; rfl
theorem rd_get {xs : List Int} {y : Int} {i : Nat} (h : xs[i]? = some y) : rd xs (i : Int) = y := getD_get h
theorem rdOf_get {α : Type} {xs : List α} {y d : α} {i : Nat} (h : xs[i]? = some y) : rdOf d xs (i : Int) = y := getD_get h
theorem drop_of_get {α : Type} {xs : List α} {y : α} {i : Nat} (h : xs[i]? = some y) : xs.drop i = y :: xs.drop (i + 1) := by
  obtain ⟨hl, rfl⟩ := List.getElem?_eq_some_iff.1 h
  exact List.drop_eq_getElem_cons hl

/-- What is left of a, n taken off; -1 if it isn't enough. -/
def left (a : Int) (n : Nat) : Int := if a < (n : Int) then -1 else a - (n : Int)
theorem left_lt {a : Int} {n : Nat} (h : a < (n : Int)) : left a n = -1 := if_pos h
theorem left_ge {a : Int} {n : Nat} (h : (n : Int) ≤ a) : left a n = a - (n : Int) := if_neg (by omega)
/-- How many values rows hold, the rows counted too. -/
def tot : List (List Int) → Nat
  | [] => 0
  | y :: ys => 1 + y.length + tot ys
def sumLen : List (List Int) → Nat
  | [] => 0
  | y :: ys => y.length + sumLen ys
theorem tot_eq : ∀ ls : List (List Int), tot ls = ls.length + sumLen ls
  | [] => rfl
  | y :: ys => by simp only [tot, sumLen, List.length_cons, tot_eq ys]; omega
theorem sumLen_mem : ∀ {ls : List (List Int)} {y : List Int}, y ∈ ls → y.length ≤ sumLen ls
  | z :: zs, y, h => by
    rcases List.mem_cons.1 h with rfl | h
    · simp only [sumLen]; omega
    · have := sumLen_mem h; simp only [sumLen]; omega

/-! ### A list that is copied, element for element -/
theorem copy_step {α : Type} {m x : List α} {y : α} {i : Nat} (hm : m[i]? = some y) (hl : x.length = m.length) (ht : x.take i = m.take i) : (x.set i y).length = m.length ∧ (x.set i y).take (i + 1) = m.take (i + 1) := by
  obtain ⟨hi, rfl⟩ := List.getElem?_eq_some_iff.1 hm
  refine ⟨by simpa using hl, ?_⟩
  apply List.ext_getElem?
  intro j
  have hj : (x.take i)[j]? = (m.take i)[j]? := by rw [ht]
  rw [List.getElem?_take, List.getElem?_take] at *
  by_cases h1 : j < i + 1
  · rw [if_pos h1, if_pos h1]
    by_cases h2 : j = i
    · subst h2
      rw [List.getElem?_set_self (by omega), List.getElem?_eq_getElem hi]
    · rw [List.getElem?_set_ne (by omega)]
      rw [if_pos (by omega), if_pos (by omega)] at hj
      exact hj
  · rw [if_neg h1, if_neg h1]
theorem copy_end {α : Type} {m x : List α} {i : Nat} (hl : x.length = m.length) (ht : x.take i = m.take i) (hi : m.length ≤ i) : x = m := by
  rw [List.take_of_length_le (by omega), List.take_of_length_le hi] at ht; exact ht

/-! ### Strictly increasing lists of 0..n-1 -/
def rise (n : Int) : Int → List Int → Bool
  | _, [] => true
  | p, y :: ys => decide (0 ≤ y ∧ y < n ∧ p < y) && rise n y ys
theorem rise_mem {n : Int} : ∀ {p : Int} {ys : List Int}, rise n p ys = true → ∀ y ∈ ys, 0 ≤ y ∧ y < n ∧ p < y
  | p, [], _, y, hy => by cases hy
  | p, z :: zs, h, y, hy => by
    simp only [rise, Bool.and_eq_true, decide_eq_true_eq] at h
    rcases List.mem_cons.1 hy with rfl | hy
    · exact h.1
    · have := rise_mem h.2 y hy; omega

/-! ### Numbers marked and held -/
def markI : Nat → Int → List Int
  | 0, _ => []
  | n + 1, k => k :: markI n (k + 1)
theorem markI_length : ∀ (n : Nat) (k : Int), (markI n k).length = n
  | 0, _ => rfl
  | n + 1, k => by simp [markI, markI_length n (k + 1)]
theorem markI_get : ∀ (n : Nat) (k : Int) (j : Nat), j < n → (markI n k)[j]? = some (k + j)
  | 0, _, _, h => by omega
  | n + 1, k, 0, _ => by simp [markI]
  | n + 1, k, j + 1, h => by simp only [markI, List.getElem?_cons_succ]; rw [markI_get n (k + 1) j (by omega)]; congr 1; push_cast; omega
def markB : Nat → Int → List Bool
  | 0, _ => []
  | n + 1, k => (Int.tmod k 3 == 0) :: markB n (k + 1)
theorem markB_length : ∀ (n : Nat) (k : Int), (markB n k).length = n
  | 0, _ => rfl
  | n + 1, k => by simp [markB, markB_length n (k + 1)]
theorem markB_get : ∀ (n : Nat) (k : Int) (j : Nat), j < n → (markB n k)[j]? = some (Int.tmod (k + j) 3 == 0)
  | 0, _, _, h => by omega
  | n + 1, k, 0, _ => by simp [markB]
  | n + 1, k, j + 1, h => by simp only [markB, List.getElem?_cons_succ]; rw [markB_get n (k + 1) j (by omega)]; congr 2; congr 1; push_cast; omega
end Go.Proofs.Ytoaglacdklmafaa.Kit
namespace Go.Proofs.Ytoaglacdklmafaa.Model
open Go.RowKit Go.Proofs.YtoaglacdklmafaaW.PrintWords Go.Proofs.Ytoaglacdklmafaa.Kit

/-- Numbers within bounds, all of them. -/
def allIn (lo hi : Int) : List Int → Bool
  | [] => true
  | y :: ys => decide (lo ≤ y ∧ y ≤ hi) && allIn lo hi ys
theorem allIn_mem {lo hi : Int} : ∀ {ys : List Int}, allIn lo hi ys = true → ∀ y ∈ ys, lo ≤ y ∧ y ≤ hi
  | [], _, y, hy => by cases hy
  | z :: zs, h, y, hy => by
    simp only [allIn, Bool.and_eq_true, decide_eq_true_eq] at h
    rcases List.mem_cons.1 hy with rfl | hy
    · exact h.1
    · exact allIn_mem h.2 y hy
theorem allIn_get {lo hi : Int} {ys : List Int} (h : allIn lo hi ys = true) {i : Nat} {y : Int} (hy : ys[i]? = some y) : lo ≤ y ∧ y ≤ hi := allIn_mem h y (List.mem_of_getElem? hy)
theorem allIn_of {lo hi : Int} : ∀ {ys : List Int}, (∀ y ∈ ys, lo ≤ y ∧ y ≤ hi) → allIn lo hi ys = true
  | [], _ => rfl
  | z :: zs, h => by simp only [allIn, Bool.and_eq_true, decide_eq_true_eq]; exact ⟨h z (by simp), allIn_of fun y hy => h y (by simp [hy])⟩

/-- The greatest number of 'false' behind each other; m: so far; n: those just before. -/
def down : List Bool → Int → Int → Int
  | [], m, _ => m
  | b :: bs, m, n => if b = true then down bs (max m 0) 0 else down bs (max m (n + 1)) (n + 1)

def mixStep (a x : Int) : Int := Int.tmod (wrap64 ((Int.tmod (wrap64 ((wrap64 ((wrap64 (33 * a)) + x)) + 11)) 1000003) * (wrap64 ((wrap64 (Int.tdiv (Int.tmod (wrap64 ((wrap64 ((wrap64 (33 * a)) + x)) + 11)) 1000003) 16)) + 7)))) 1000003
def mix (l : List Int) : Int := (l ++ [5, 2]).foldl mixStep (wrap64 (6007 + (l.length : Int)))
def keyOk (l : List Int) : Bool := decide (l.length ≤ 8) && allIn 0 1000000000 l

def gridOk (x y z : Int) : Bool := decide (1 ≤ x ∧ x ≤ 8 ∧ 1 ≤ y ∧ y ≤ 6 ∧ 1 ≤ z ∧ z ≤ 5 ∧ x * y * z ≤ 120)
theorem grid_prod {x y z : Int} (hx : 1 ≤ x ∧ x ≤ 8) (hy : 1 ≤ y ∧ y ≤ 6) (hz : 1 ≤ z ∧ z ≤ 5) : 1 ≤ x * y ∧ x * y ≤ 48 ∧ 1 ≤ x * y * z ∧ x * y * z ≤ 240 := by
  rcases (by omega : x = 1 ∨ x = 2 ∨ x = 3 ∨ x = 4 ∨ x = 5 ∨ x = 6 ∨ x = 7 ∨ x = 8) with rfl | rfl | rfl | rfl | rfl | rfl | rfl | rfl <;>
    rcases (by omega : z = 1 ∨ z = 2 ∨ z = 3 ∨ z = 4 ∨ z = 5) with rfl | rfl | rfl | rfl | rfl <;> omega
theorem grid_ok {x y z : Int} (h : gridOk x y z = true) : (1 ≤ x ∧ x ≤ 8) ∧ (1 ≤ y ∧ y ≤ 6) ∧ (1 ≤ z ∧ z ≤ 5) ∧ 1 ≤ x * y ∧ x * y ≤ 48 ∧ 1 ≤ x * y * z ∧ x * y * z ≤ 120 := by
  simp only [gridOk, decide_eq_true_eq] at h
  have := grid_prod (x := x) (y := y) (z := z) (by omega) (by omega) (by omega)
  omega
theorem grid_wrap {x y z : Int} (hx : 1 ≤ x ∧ x ≤ 8) (hy : 1 ≤ y ∧ y ≤ 6) (hz : 1 ≤ z ∧ z ≤ 5) : wrap64 (wrap64 (x * y) * z) = x * y * z := by
  have := grid_prod hx hy hz
  rw [wrap_id (x := x * y) (by omega) (by omega), wrap_id (by omega) (by omega)]
def holeOk (gx gy gz x y z t g : Int) : Bool := decide (0 ≤ x ∧ x < 10 * gx ∧ 0 ≤ y ∧ y < 10 * gy ∧ 0 ≤ z ∧ z < 10 * gz ∧ 1 ≤ t ∧ t ≤ 1000 ∧ 0 ≤ g ∧ g ≤ 1000)
def benchOk (x y : Int) (l : List Int) : Bool := decide (1 ≤ x ∧ x ≤ 8 ∧ 1 ≤ y ∧ y ≤ 6 ∧ (l.length : Int) = x * y) && allIn (-1000000) 1000000 l
theorem bench_prod {x y : Int} (hx : 1 ≤ x ∧ x ≤ 8) (hy : 1 ≤ y ∧ y ≤ 6) : 1 ≤ x * y ∧ x * y ≤ 48 := by
  rcases (by omega : x = 1 ∨ x = 2 ∨ x = 3 ∨ x = 4 ∨ x = 5 ∨ x = 6 ∨ x = 7 ∨ x = 8) with rfl | rfl | rfl | rfl | rfl | rfl | rfl | rfl <;> omega
theorem bench_len {x y : Int} {l : List Int} (h : benchOk x y l = true) : (1 ≤ x ∧ x ≤ 8) ∧ (1 ≤ y ∧ y ≤ 6) ∧ (l.length : Int) = x * y ∧ 1 ≤ l.length ∧ l.length ≤ 48 := by
  simp only [benchOk, Bool.and_eq_true, decide_eq_true_eq] at h
  have := bench_prod (x := x) (y := y) (by omega) (by omega)
  omega
theorem bench_vals {x y : Int} {l : List Int} (h : benchOk x y l = true) : allIn (-1000000) 1000000 l = true := by
  simp only [benchOk, Bool.and_eq_true] at h; exact h.2
def rowHolds (l : List Int) : Bool := decide (rd l 0 = wrap64 (wrap64 (rd l 2 + rd l 4) + rd l 6)) && (rd l 1 == wrap64 (wrap64 (rd l 3 + rd l 5) + rd l 7))
def rowOk (l : List Int) : Bool := decide (l.length = 12) && allIn 0 100000000000 l
def rowsOk : List (List Int) → Bool
  | [] => true
  | y :: ys => rowOk y && rowsOk ys
theorem rowsOk_mem : ∀ {ls : List (List Int)}, rowsOk ls = true → ∀ y ∈ ls, rowOk y = true
  | z :: zs, h, y, hy => by
    simp only [rowsOk, Bool.and_eq_true] at h
    rcases List.mem_cons.1 hy with rfl | hy
    · exact h.1
    · exact rowsOk_mem h.2 y hy
theorem row_len {y : List Int} (h : rowOk y = true) : y.length = 12 := by simp [rowOk] at h; exact h.1
theorem row_rd {y : List Int} (h : rowOk y = true) (i : Nat) (hi : i < 12) : 0 ≤ rd y (i : Int) ∧ rd y (i : Int) ≤ 100000000000 := by
  have hl := row_len h
  simp only [rowOk, Bool.and_eq_true] at h
  have hg : y[i]? = some (y[i]'(by omega)) := List.getElem?_eq_getElem (by omega)
  rw [rd_get hg]
  exact allIn_get h.2 hg
def piles : List (List Int) → Int → Int
  | [], m => m
  | y :: ys, m => piles ys (max m (rd y 10))
/-- The first row that doesn't balance, from index i on. -/
def imbal : List (List Int) → Nat → Int → Int → Nat
  | [], i, _, _ => i
  | y :: ys, i, t, m => if rowHolds y = true ∧ rd y 10 = t + (rd y 4 - rd y 8) ∧ rd y 11 = m + (rd y 5 - rd y 9) then imbal ys (i + 1) (rd y 10) (rd y 11) else i
def machOk (a b : Int) : Bool := decide (0 ≤ a ∧ a ≤ 100 ∧ 0 ≤ b ∧ b ≤ 100)
/-- The states of a machine: d shifts, from shift s on; 'now': is it ready? -/
def states (f r key : Int) : Nat → Int → Bool → List Bool
  | 0, _, _ => []
  | d + 1, s, now => now :: states f r key d (s + 1) (if Int.tmod (mix [key, s, 3, 100]) 100 < (if now = true then f else r) then !now else now)
theorem states_length (f r key : Int) : ∀ (d : Nat) (s : Int) (now : Bool), (states f r key d s now).length = d
  | 0, _, _ => rfl
  | d + 1, s, now => by simp [states, states_length]
/-- Tonnes and losses of a bench. -/
def lossWaste : List Int → List Bool → Int → Int → Int × Int
  | v :: vs, b :: bs, l, w => if b = true then lossWaste vs bs l (w + max 0 (-v)) else lossWaste vs bs (l + max 0 v) w
  | _, _, l, w => (l, w)
def dugSum : List Int → List Bool → Int → Int
  | v :: vs, b :: bs, s => dugSum vs bs (if b = true then s + v else s)
  | _, _, s => s
def modelOk (x y z : Int) (t g r : List Int) : Bool := gridOk x y z && decide ((t.length : Int) = x * y * z ∧ (g.length : Int) = x * y * z ∧ (r.length : Int) = x * y * z) && (allIn 0 10000 t && (allIn 0 1000 g && allIn 0 4 r))
theorem sq_bd {d : Int} (h : -1000 ≤ d ∧ d ≤ 1000) : 0 ≤ d * d ∧ d * d ≤ 1000000 := by
  rcases Int.le_total 0 d with h0 | h0
  · exact ⟨Int.mul_nonneg h0 h0, Int.mul_le_mul h.2 h.2 h0 (by omega)⟩
  · rw [← Int.neg_mul_neg]
    exact ⟨Int.mul_nonneg (by omega) (by omega), Int.mul_le_mul (a := -d) (b := -d) (c := 1000) (d := 1000) (by omega) (by omega) (by omega) (by omega)⟩
/-- The square of the distance of a place from the middle of a block's place. -/
def farOf (px py pz x y z : Int) : Int := (x - 10 * px - 5) * (x - 10 * px - 5) + (y - 10 * py - 5) * (y - 10 * py - 5) + (z - 10 * pz - 5) * (z - 10 * pz - 5)
theorem far_nonneg (px py pz x y z : Int) : 0 ≤ farOf px py pz x y z := by
  have h : ∀ d : Int, 0 ≤ d * d := fun d => by
    rcases Int.le_total 0 d with h0 | h0
    · exact Int.mul_nonneg h0 h0
    · rw [← Int.neg_mul_neg]; exact Int.mul_nonneg (by omega) (by omega)
  have a := h (x - 10 * px - 5); have b := h (y - 10 * py - 5); have c := h (z - 10 * pz - 5)
  unfold farOf; omega
theorem far_wrap {px py pz x y z : Int} (hx : 0 ≤ px ∧ px ≤ 10) (hy : 0 ≤ py ∧ py ≤ 10) (hz : 0 ≤ pz ∧ pz ≤ 10) (kx : 0 ≤ x ∧ x ≤ 100) (ky : 0 ≤ y ∧ y ≤ 100) (kz : 0 ≤ z ∧ z ≤ 100) :
    wrap64 ((wrap64 ((wrap64 ((wrap64 ((wrap64 (x - (wrap64 (10 * px)))) - 5)) * (wrap64 ((wrap64 (x - (wrap64 (10 * px)))) - 5)))) + (wrap64 ((wrap64 ((wrap64 (y - (wrap64 (10 * py)))) - 5)) * (wrap64 ((wrap64 (y - (wrap64 (10 * py)))) - 5)))))) + (wrap64 ((wrap64 ((wrap64 (z - (wrap64 (10 * pz)))) - 5)) * (wrap64 ((wrap64 (z - (wrap64 (10 * pz)))) - 5))))) = farOf px py pz x y z := by
  have a := sq_bd (d := x - 10 * px - 5) (by omega)
  have b := sq_bd (d := y - 10 * py - 5) (by omega)
  have c := sq_bd (d := z - 10 * pz - 5) (by omega)
  rw [wrap_id (x := 10 * px) (by omega) (by omega), wrap_id (x := 10 * py) (by omega) (by omega), wrap_id (x := 10 * pz) (by omega) (by omega),
    wrap_id (x := x - 10 * px) (by omega) (by omega), wrap_id (x := y - 10 * py) (by omega) (by omega), wrap_id (x := z - 10 * pz) (by omega) (by omega),
    wrap_id (x := x - 10 * px - 5) (by omega) (by omega), wrap_id (x := y - 10 * py - 5) (by omega) (by omega), wrap_id (x := z - 10 * pz - 5) (by omega) (by omega),
    wrap_id (x := (x - 10 * px - 5) * (x - 10 * px - 5)) (by omega) (by omega), wrap_id (x := (y - 10 * py - 5) * (y - 10 * py - 5)) (by omega) (by omega), wrap_id (x := (z - 10 * pz - 5) * (z - 10 * pz - 5)) (by omega) (by omega),
    wrap_id (x := (x - 10 * px - 5) * (x - 10 * px - 5) + (y - 10 * py - 5) * (y - 10 * py - 5)) (by omega) (by omega), wrap_id (by omega) (by omega)]
  rfl
def near {α : Type} (far : α → Int) : List α → Int → Int → Int → Int
  | [], _, best, _ => best
  | h :: hs, i, best, least => if least < 0 ∨ far h < least then near far hs (i + 1) i (far h) else near far hs (i + 1) best least
def hasBlock (x y z i : Int) : Bool := gridOk x y z && decide (0 ≤ i ∧ i < x * y * z)
theorem place_of {x y z i : Int} (h : hasBlock x y z i = true) : (0 ≤ i % x ∧ i % x < x) ∧ (0 ≤ i / x % y ∧ i / x % y < y) ∧ (0 ≤ i / x / y ∧ i / x / y < z) ∧ 0 ≤ i / x ∧ i / x ≤ 120 := by
  simp only [hasBlock, Bool.and_eq_true, decide_eq_true_eq] at h
  have hb := grid_ok h.1
  have hi := h.2
  have h1 : 0 ≤ i / x := Int.ediv_nonneg (by omega) (by omega)
  have h2 : i / x < y * z := by
    apply Int.ediv_lt_of_lt_mul (by omega)
    rw [Int.mul_comm (y * z) x, ← Int.mul_assoc]; exact hi.2
  have h3 : i / x / y < z := by
    apply Int.ediv_lt_of_lt_mul (by omega)
    rw [Int.mul_comm z y]; exact h2
  have h4 : i / x ≤ i := Int.ediv_le_self _ (by omega)
  exact ⟨⟨Int.emod_nonneg _ (by omega), Int.emod_lt_of_pos _ (by omega)⟩, ⟨Int.emod_nonneg _ (by omega), Int.emod_lt_of_pos _ (by omega)⟩, ⟨Int.ediv_nonneg h1 (by omega), h3⟩, h1, by omega⟩
/-- A fraction in lowest terms, of numbers that are not negative. -/
def low (a b : Int) : Int × Int := (a / (Nat.gcd a.natAbs b.natAbs : Int), b / (Nat.gcd a.natAbs b.natAbs : Int))
theorem low_bd {a b : Int} (ha : 0 ≤ a) (hb : 0 < b) : 1 ≤ (Nat.gcd a.natAbs b.natAbs : Int) ∧ 0 ≤ (low a b).1 ∧ (low a b).1 ≤ a ∧ 1 ≤ (low a b).2 ∧ (low a b).2 ≤ b ∧ a = (low a b).1 * (Nat.gcd a.natAbs b.natAbs : Int) ∧ b = (low a b).2 * (Nat.gcd a.natAbs b.natAbs : Int) := by
  have hg : 0 < Nat.gcd a.natAbs b.natAbs := Nat.gcd_pos_of_pos_right _ (by omega)
  have d1 : (Nat.gcd a.natAbs b.natAbs : Int) ∣ a := Int.natAbs_dvd_natAbs.1 (by simpa using Nat.gcd_dvd_left a.natAbs b.natAbs)
  have d2 : (Nat.gcd a.natAbs b.natAbs : Int) ∣ b := Int.natAbs_dvd_natAbs.1 (by simpa using Nat.gcd_dvd_right a.natAbs b.natAbs)
  have e1 := Int.ediv_mul_cancel d1
  have e2 := Int.ediv_mul_cancel d2
  have h1 : 0 ≤ a / (Nat.gcd a.natAbs b.natAbs : Int) := Int.ediv_nonneg ha (by omega)
  have h2 : a / (Nat.gcd a.natAbs b.natAbs : Int) ≤ a := Int.ediv_le_self _ ha
  have h3 : 0 ≤ b / (Nat.gcd a.natAbs b.natAbs : Int) := Int.ediv_nonneg (by omega) (by omega)
  have h4 : b / (Nat.gcd a.natAbs b.natAbs : Int) ≤ b := Int.ediv_le_self _ (by omega)
  refine ⟨by omega, h1, h2, ?_, h4, e1.symm, e2.symm⟩
  by_cases h5 : b / (Nat.gcd a.natAbs b.natAbs : Int) = 0
  · rw [h5] at e2; omega
  · show 1 ≤ b / (Nat.gcd a.natAbs b.natAbs : Int); omega
theorem low_scale {a b c : Int} (ha : 0 ≤ a) (hb : 0 < b) (hc : 0 < c) : low (a * c) (b * c) = low a b := by
  have hg : 0 < Nat.gcd a.natAbs b.natAbs := Nat.gcd_pos_of_pos_right _ (by omega)
  have e : (Nat.gcd (a * c).natAbs (b * c).natAbs : Int) = (Nat.gcd a.natAbs b.natAbs : Int) * c := by
    rw [Int.natAbs_mul, Int.natAbs_mul, Nat.gcd_mul_right, Int.natCast_mul]; congr 1; omega
  simp only [low, e]
  rw [Int.mul_ediv_mul_of_pos_left _ _ hc, Int.mul_ediv_mul_of_pos_left _ _ hc]
/-- Ready and down, behind one shift more. -/
def turn (f r : Int) (p : Int × Int) : Int × Int := (p.1 * (100 - f) + p.2 * r, p.1 * f + p.2 * (100 - r))
def turns (f r : Int) : Nat → Int × Int → Int × Int
  | 0, p => p
  | n + 1, p => turns f r n (turn f r p)
def begin_ (c : Bool) : Int × Int := if c = true then (1, 0) else (0, 1)
theorem turn_bd {f r : Int} {p : Int × Int} (hm : machOk f r = true) (h1 : 0 ≤ p.1) (h2 : 0 ≤ p.2) :
    (0 ≤ p.1 * (100 - f) ∧ p.1 * (100 - f) ≤ p.1 * 100) ∧ (0 ≤ p.2 * r ∧ p.2 * r ≤ p.2 * 100) ∧ (0 ≤ p.1 * f ∧ p.1 * f ≤ p.1 * 100) ∧ (0 ≤ p.2 * (100 - r) ∧ p.2 * (100 - r) ≤ p.2 * 100) ∧ p.1 * f = p.1 * 100 - p.1 * (100 - f) ∧ p.2 * (100 - r) = p.2 * 100 - p.2 * r := by
  simp only [machOk, decide_eq_true_eq] at hm
  have m : ∀ {a b : Int}, 0 ≤ a → 0 ≤ b → b ≤ 100 → 0 ≤ a * b ∧ a * b ≤ a * 100 := fun ha hb hc => ⟨Int.mul_nonneg ha hb, Int.mul_le_mul_of_nonneg_left hc ha⟩
  refine ⟨m h1 (by omega) (by omega), m h2 (by omega) (by omega), m h1 (by omega) (by omega), m h2 (by omega) (by omega), ?_, ?_⟩
  · rw [Int.mul_sub]; omega
  · rw [Int.mul_sub]
theorem turn_sum {f r : Int} {p : Int × Int} (hm : machOk f r = true) (h1 : 0 ≤ p.1) (h2 : 0 ≤ p.2) : 0 ≤ (turn f r p).1 ∧ 0 ≤ (turn f r p).2 ∧ (turn f r p).1 + (turn f r p).2 = (p.1 + p.2) * 100 := by
  have := turn_bd hm h1 h2
  simp only [turn]; omega
theorem turns_sum {f r : Int} (hm : machOk f r = true) : ∀ (n : Nat) (p : Int × Int), 0 ≤ p.1 → 0 ≤ p.2 → 0 ≤ (turns f r n p).1 ∧ 0 ≤ (turns f r n p).2 ∧ (turns f r n p).1 + (turns f r n p).2 = (p.1 + p.2) * 100 ^ n
  | 0, p, h1, h2 => by simp [turns, h1, h2]
  | n + 1, p, h1, h2 => by
    have a := turn_sum hm h1 h2
    have b := turns_sum hm n (turn f r p) a.1 a.2.1
    simp only [turns]
    refine ⟨b.1, b.2.1, ?_⟩
    rw [b.2.2, a.2.2, Int.pow_succ, Int.mul_assoc, Int.mul_comm 100 (100 ^ n)]
theorem pow_ge (n : Nat) : 1 ≤ (100 : Int) ^ n := by have := Int.pow_pos (n := 100) (m := n) (by omega); omega
/-- What the shifts tell: the first number of each. -/
def tells (f r : Int) : Nat → Int × Int → List Int
  | 0, _ => []
  | n + 1, p => (turn f r p).1 :: tells f r n (turn f r p)
theorem tells_length (f r : Int) : ∀ (n : Nat) (p : Int × Int), (tells f r n p).length = n
  | 0, _ => rfl
  | n + 1, p => by simp [tells, tells_length f r n]
theorem tells_get (f r : Int) : ∀ (n : Nat) (p : Int × Int) (s : Nat), s < n → (tells f r n p)[s]? = some (turns f r (s + 1) p).1
  | 0, _, s, h => by omega
  | n + 1, p, 0, h => by simp [tells, turns]
  | n + 1, p, s + 1, h => by simp only [tells, List.getElem?_cons_succ]; rw [tells_get f r n (turn f r p) s (by omega)]; rfl
/-- The sum of the first j numbers, each brought to 100 to the power e. -/
def meanSum (C : Nat → Int) (e : Nat) : Nat → Int
  | 0 => 0
  | j + 1 => meanSum C e j + C j * 100 ^ (e - j)
theorem meanSum_bd {C : Nat → Int} {e : Nat} (hC : ∀ s, s ≤ 5 → 0 ≤ C s ∧ C s ≤ 100 ^ s) : ∀ j, j ≤ e + 1 → j ≤ 5 → (0 ≤ meanSum C e j ∧ meanSum C e j ≤ j * 100 ^ e) ∧ (j ≤ e → 0 ≤ C j * 100 ^ (e - j) ∧ C j * 100 ^ (e - j) ≤ 100 ^ e)
  | 0, h, h5 => ⟨by simp [meanSum], fun _ => by
      have c := hC 0 (by omega)
      refine ⟨Int.mul_nonneg c.1 (by have := pow_ge (e - 0); omega), ?_⟩
      have h : C 0 * 100 ^ (e - 0) ≤ 1 * 100 ^ (e - 0) := Int.mul_le_mul_of_nonneg_right (by simpa using c.2) (by have := pow_ge (e - 0); omega)
      simpa using h⟩
  | j + 1, h, h5 => by
    have a := meanSum_bd (e := e) hC j (by omega) (by omega)
    have a2 := a.2 (by omega)
    refine ⟨?_, fun hj => ?_⟩
    · simp only [meanSum]
      have e1 : ((j + 1 : Nat) : Int) * 100 ^ e = (j : Int) * 100 ^ e + 100 ^ e := by rw [Int.natCast_succ, Int.add_mul, Int.one_mul]
      omega
    · have c := hC (j + 1) h5
      have hp := pow_ge (e - (j + 1))
      refine ⟨Int.mul_nonneg c.1 (by omega), ?_⟩
      have q : C (j + 1) * 100 ^ (e - (j + 1)) ≤ 100 ^ (j + 1) * 100 ^ (e - (j + 1)) := Int.mul_le_mul_of_nonneg_right c.2 (by omega)
      rw [← Int.pow_add (100 : Int) (j + 1) (e - (j + 1)), show j + 1 + (e - (j + 1)) = e by omega] at q
      exact q
theorem meanSum_scale (C : Nat → Int) (e d : Nat) : ∀ j, j ≤ e + 1 → meanSum C (e + d) j = meanSum C e j * 100 ^ d
  | 0, h => by simp [meanSum]
  | j + 1, h => by
    simp only [meanSum]
    rw [meanSum_scale C e d j (by omega), Int.add_mul, Int.mul_assoc (C j), ← Int.pow_add, show e + d - j = e - j + d by omega]
theorem pow_div (j : Nat) (h : j ≤ 4) : (100000000 : Int) / 100 ^ j = 100 ^ (4 - j) := by
  rcases (by omega : j = 0 ∨ j = 1 ∨ j = 2 ∨ j = 3 ∨ j = 4) with rfl | rfl | rfl | rfl | rfl <;> decide
/-- A row of cells and rows of them, as bytes: the last row first. -/
def rowBytes (bs : List Bool) : List Int := bs.map fun b => if b = true then 35 else 46
def digBytes (d : List Bool) (w : Nat) : Nat → List Int
  | 0 => []
  | y + 1 => rowBytes ((d.drop (y * w)).take w) ++ 10 :: digBytes d w y
theorem str_snoc (xs : List Int) (x : Int) (b : UInt8) (h : UInt8.ofNat x.toNat = b) : strOfNums xs ++ (⟨#[b]⟩ : ByteArray) = strOfNums (xs ++ [x]) := by
  apply ByteArray.ext
  simp [strOfNums, ByteArray.data_append, h]
theorem grid_row {w y : Nat} {n : Nat} (hw : 1 ≤ w ∧ w ≤ 8) (hy : y < 6) (hn : (y + 1) * w ≤ n) (h48 : n ≤ 48) : y * w ≤ 48 ∧ (y + 1) * w = y * w + w ∧ y * w + w ≤ n := by
  rw [Nat.add_mul, Nat.one_mul] at hn ⊢; omega
end Go.Proofs.Ytoaglacdklmafaa.Model
namespace Go.Proofs.Ytoaglacdklmafaa.PureFnExactRowWidth
open Go.RowKit Go.Proofs.Ytoaglacdklmafaa.PFnExactRowWidth Go.Proofs.YtoaglacdklmafaaW.PrintWords Go.Proofs.YtoaglacdklmafaaW.PrintLast Go.Proofs.YtoaglacdklmafaaW.PrintMore Go.Proofs.Ytoaglacdklmafaa.Kit Go.Proofs.Ytoaglacdklmafaa.Model
theorem laws_szIntS_eq (l : List Int) (a : Int) (h0 : 0 ≤ a) (ha : a ≤ 1048576) (hn : l.length ≤ 9223372036854775807) : laws_szIntS.f l a = some (if a < l.length then -1 else a - l.length) := by
  simp only [laws_szIntS.f]
  rw [wrap_id (by omega) (by omega)]
  split
  · rw [if_pos (by omega)]
  · rw [if_neg (by omega)]
theorem laws_szBench_eq (x y : Int) (l : List Int) (a : Int) (h0 : 0 ≤ a) (ha : a ≤ 1048576) (hn : l.length ≤ 9223372036854775807) : laws_szBench.f x y l a = some (if a < l.length then -1 else a - l.length) := by
  simp only [laws_szBench.f, laws_szIntS_eq l a h0 ha hn, Option.bind_some]
  by_cases h : a < l.length
  · rw [if_pos h, if_pos (by omega)]
  · rw [if_neg h, if_neg (by omega)]
theorem spec_l1In_eq (a lo hi : Int) : spec_l1In.f a lo hi = some (decide (lo ≤ a ∧ a ≤ hi)) := by
  unfold spec_l1In.f
  split
  · congr 1; simp; omega
  · congr 1; simp; omega
theorem spec_l1All_l0 (lo hi : Int) (l : List Int) (hn : l.length ≤ 9223372036854775807) : ∀ (ys : List Int) (i : Nat), l.drop i = ys → Ev (fun k => spec_l1All.l0 k lo hi l (l.length : Int) i) (allIn lo hi ys)
  | [], i, h => Ev.next0 fun k => by
      have h0 := drop_nil h
      simp only [spec_l1All.l0, allIn]
      rw [if_neg (by omega)]
  | y :: ys, i, h => by
      obtain ⟨h1, h2, h3⟩ := drop_cons h
      refine Ev.next1 (spec_l1All_l0 lo hi l hn ys (i + 1) h3) fun k hk => ?_
      have e := rd_drop h
      simp only [spec_l1All.l0, e, spec_l1In_eq, Option.bind_some]
      rw [if_pos (by omega), if_pos (by omega), if_pos (by omega), wrap_succ h1 hn]
      by_cases hy : lo ≤ y ∧ y ≤ hi
      · rw [if_pos (decide_eq_true hy), hk]; simp [allIn, hy]
      · rw [if_neg (by simp; omega)]; simp [allIn, hy]
theorem spec_l1All_ev (l : List Int) (lo hi : Int) (hn : l.length ≤ 9223372036854775807) : Ev (fun k => spec_l1All.f k l lo hi) (allIn lo hi l) :=
  Ev.of1 (spec_l1All_l0 lo hi l hn l 0 rfl) fun k hk => by simp only [spec_l1All.f]; exact hk
theorem spec_dgGood_ev (x y : Int) (l : List Int) (hn : l.length ≤ 9223372036854775807) : Ev (fun k => spec_dgGood.f k x y l) (benchOk x y l) := by
  refine Ev.of1 (spec_l1All_ev l (-1000000) 1000000 hn) fun k hk => ?_
  simp only [spec_dgGood.f, spec_l1In_eq, hk, Option.bind_some, benchOk, decide_eq_true_eq]
  by_cases hx : 1 ≤ x ∧ x ≤ 8
  · rw [if_pos hx]
    by_cases hy : 1 ≤ y ∧ y ≤ 6
    · have hp := bench_prod hx hy
      rw [if_pos hy, wrap_id (by omega) (by omega)]
      by_cases hl : (l.length : Int) = x * y
      · rw [if_pos hl]; congr 1; simp [hx, hy, hl]
      · rw [if_neg hl]; congr 1; symm; simp [hl]
    · rw [if_neg hy]; congr 1; symm; simp; omega
  · rw [if_neg hx]; congr 1; symm; simp; omega
theorem spec_dgBoth_ev (x y : Int) (l : List Int) (d : List Bool) (hn : l.length ≤ 9223372036854775807) : Ev (fun k => spec_dgBoth.f k x y l d) (benchOk x y l && decide (d.length = l.length)) :=
  Ev.of1 (spec_dgGood_ev x y l hn) fun k hk => by
    simp only [spec_dgBoth.f, hk, Option.bind_some]
    by_cases h : benchOk x y l = true
    · rw [if_pos h, h]; congr 1; simp only [Bool.true_and]; rw [Bool.eq_iff_iff]; simp; omega
    · rw [if_neg h]; simp [h]
theorem wrap_nat (n : Nat) (h : n ≤ 1000) : wrap64 (n : Int) = n := wrap_id (by omega) (by omega)
/-- The cut of row y out of a bench of rows of w. -/
theorem row_cut (d : List Bool) (X : Int) (w y : Nat) (hX : X = (w : Int)) (q1 : y * w ≤ 1000) (q2 : y * w + w ≤ 1000) (q3 : y + 1 ≤ 1000) (q4 : y * w + w ≤ d.length) (ho : (y + 1) * w = y * w + w) :
    0 ≤ wrap64 ((y : Int) * X) ∧ wrap64 ((y : Int) * X) ≤ wrap64 (wrap64 ((y : Int) + 1) * X) ∧ wrap64 (wrap64 ((y : Int) + 1) * X) ≤ (d.length : Int) ∧
      (d.take (wrap64 (wrap64 ((y : Int) + 1) * X)).toNat).drop (wrap64 ((y : Int) * X)).toNat = (d.drop (y * w)).take w ∧ wrap64 ((y : Int) + 1) = ((y + 1 : Nat) : Int) := by
  have p1 : (0 : Int) ≤ ((y * w : Nat) : Int) := Int.natCast_nonneg _
  have p2 : ((y * w : Nat) : Int) ≤ ((y * w + w : Nat) : Int) := Int.ofNat_le.2 (Nat.le_add_right _ _)
  have p3 : ((y * w + w : Nat) : Int) ≤ (d.length : Int) := Int.ofNat_le.2 q4
  have e3 : (d.take (((y * w + w : Nat) : Int)).toNat).drop (((y * w : Nat) : Int)).toNat = (d.drop (y * w)).take w := by
    rw [Int.toNat_natCast, Int.toNat_natCast, List.drop_take, Nat.add_sub_cancel_left]
  have p4 := wrap_nat (y * w) q1
  have p5 := wrap_nat (y * w + w) q2
  have p6 := wrap_nat (y + 1) q3
  have p7 : ((y : Int) + 1) = ((y + 1 : Nat) : Int) := (Int.natCast_add y 1).symm
  have e1 : wrap64 ((y : Int) * X) = ((y * w : Nat) : Int) := by
    rw [hX, ← Int.natCast_mul]; exact p4
  have e2 : wrap64 (wrap64 ((y : Int) + 1) * X) = ((y * w + w : Nat) : Int) := by
    rw [p7, p6, hX, ← Int.natCast_mul, ho]; exact p5
  rw [e1, e2]
  refine ⟨p1, p2, p3, e3, ?_⟩
  rw [p7]; exact p6
/-- The lengths of a row's runs of 'true'; n: of the run under way. -/
def runs : List Bool → Int → List Int
  | [], _ => []
  | b :: bs, n => if b = true then (if bs = [] then [n + 1] else runs bs (n + 1)) else (if n > 0 then n :: runs bs 0 else runs bs 0)
theorem runs_pos : ∀ (bs : List Bool) (n : Int), 0 ≤ n → ∀ r ∈ runs bs n, 0 < r
  | [], n, h, r, hr => by cases hr
  | b :: bs, n, h, r, hr => by
    simp only [runs] at hr
    split at hr
    · split at hr
      · simp at hr; omega
      · exact runs_pos bs (n + 1) (by omega) r hr
    · split at hr
      · rcases List.mem_cons.1 hr with rfl | hr
        · omega
        · exact runs_pos bs 0 (by omega) r hr
      · exact runs_pos bs 0 (by omega) r hr
theorem runs_length : ∀ (bs : List Bool) (n : Int), (runs bs n).length ≤ bs.length
  | [], n => Nat.le_refl _
  | b :: bs, n => by
    have a := runs_length bs (n + 1); have c := runs_length bs 0
    simp only [runs]; repeat' split
    all_goals simp <;> omega
theorem spec_dgRuns_l0 (row : List Bool) (hn : row.length ≤ 1048576) : ∀ (bs : List Bool) (j : Nat) (acc : List Int) (n : Int), row.drop j = bs → acc.length ≤ j → 0 ≤ n ∧ n ≤ j →
    Ev (fun k => spec_dgRuns.l0 k row acc n row (row.length : Int) j) (acc ++ runs bs n)
  | [], j, acc, n, h, ha, hm => Ev.next0 fun k => by
      have h0 := drop_nil h
      simp only [spec_dgRuns.l0, runs, List.append_nil]
      rw [if_neg (by omega)]
  | b :: bs, j, acc, n, h, ha, hm => by
      obtain ⟨h1, h2, h3⟩ := drop_cons h
      have e := rdOf_drop (d := false) h
      cases b with
      | true =>
        by_cases hl : bs = []
        · have hj : j + 1 = row.length := by have := drop_nil (hl ▸ h3); omega
          refine Ev.next1 (spec_dgRuns_l0 row hn bs (j + 1) (acc ++ [n + 1]) 0 h3 (by simp; omega) (by omega)) fun k hk => ?_
          simp only [spec_dgRuns.l0, e, runs, if_true, if_pos hl]
          rw [if_pos (by omega), if_pos (by omega), if_pos (by omega), wrap_id (x := n + 1) (by omega) (by omega), wrap_id (x := (row.length : Int) - 1) (by omega) (by omega), if_pos (by omega), if_pos (by omega), if_pos (by omega), wrap_succ h1 (by omega)]
          have e0 : runs bs 0 = [] := by rw [hl]; rfl
          rw [e0, List.append_nil] at hk; exact hk
        · have hj : j + 1 ≠ row.length := fun q => hl (by rw [← h3, List.drop_of_length_le (by omega)])
          refine Ev.next1 (spec_dgRuns_l0 row hn bs (j + 1) acc (n + 1) h3 (by omega) (by omega)) fun k hk => ?_
          simp only [spec_dgRuns.l0, e, runs, if_true, if_neg hl]
          rw [if_pos (by omega), if_pos (by omega), if_pos (by omega), wrap_id (x := n + 1) (by omega) (by omega), wrap_id (x := (row.length : Int) - 1) (by omega) (by omega), if_pos (by omega), if_neg (by omega), wrap_succ h1 (by omega)]
          exact hk
      | false =>
        by_cases hp : n > 0
        · refine Ev.next1 (spec_dgRuns_l0 row hn bs (j + 1) (acc ++ [n]) 0 h3 (by simp; omega) (by omega)) fun k hk => ?_
          simp only [spec_dgRuns.l0, e, runs, Bool.false_eq_true, if_false, if_pos hp]
          rw [if_pos (by omega), if_pos (by omega), if_pos (by omega), if_pos (by omega), wrap_succ h1 (by omega)]
          rw [List.append_assoc] at hk; exact hk
        · obtain rfl : n = 0 := by omega
          refine Ev.next1 (spec_dgRuns_l0 row hn bs (j + 1) acc 0 h3 (by omega) (by omega)) fun k hk => ?_
          simp only [spec_dgRuns.l0, e, runs, Bool.false_eq_true, if_false, if_neg hp]
          rw [if_pos (by omega), if_pos (by omega), if_pos (by omega), wrap_succ h1 (by omega)]
          exact hk
theorem spec_dgRuns_ev (row : List Bool) (hn : row.length ≤ 1048576) : Ev (fun k => spec_dgRuns.f k row) (runs row 0) :=
  Ev.of1 (spec_dgRuns_l0 row hn row 0 [] 0 rfl (by simp) (by omega)) fun k hk => by simp only [spec_dgRuns.f]; exact hk
/-- The smaller of what was found (0: nothing yet) and r. -/
def less (b r : Int) : Int := if b = 0 then r else if r < b then r else b
def lessAll (b : Int) : List Int → Int
  | [] => b
  | r :: rs => lessAll (less b r) rs
def comb (b m : Int) : Int := if m > 0 then less b m else b
theorem lessAll_pos : ∀ (rs : List Int) (b : Int), 0 ≤ b → (∀ r ∈ rs, 0 < r) → 0 ≤ lessAll b rs
  | [], b, hb, _ => hb
  | r :: rs, b, hb, hr => by
    have h1 := hr r (by simp)
    refine lessAll_pos rs (less b r) ?_ (fun x hx => hr x (by simp [hx]))
    unfold less; split; omega; split <;> omega
theorem lessAll_comb : ∀ (rs : List Int) (b : Int), 0 ≤ b → (∀ r ∈ rs, 0 < r) → lessAll b rs = comb b (lessAll 0 rs)
  | [], b, hb, _ => by simp [lessAll, comb]
  | r :: rs, b, hb, hr => by
    have h1 := hr r (by simp)
    have hr' : ∀ x ∈ rs, 0 < x := fun x hx => hr x (by simp [hx])
    have e1 := lessAll_comb rs (less b r) (by unfold less; split; omega; split <;> omega) hr'
    have e2 := lessAll_comb rs (less 0 r) (by unfold less; split; omega; split <;> omega) hr'
    have hp := lessAll_pos rs 0 (by omega) hr'
    simp only [lessAll]
    rw [e1, e2]
    generalize lessAll 0 rs = m at hp
    unfold comb less
    repeat' split
    all_goals omega
/-- The shortest run of m rows, from row y on. -/
def widths (d : List Bool) (w : Nat) : Nat → Nat → Int → Int
  | 0, _, b => b
  | m + 1, y, b => widths d w m (y + 1) (lessAll b (runs ((d.drop (y * w)).take w) 0))
def rowWidth (x y : Int) (l : List Int) (d : List Bool) : Int × Bool := if benchOk x y l = true ∧ d.length = l.length then (widths d x.toNat y.toNat 0 0, decide (widths d x.toNat y.toNat 0 0 > 0)) else (0, false)
theorem spec_RowWidth_l1 (d : List Bool) (X Y : Int) (v : List Int) (y : Nat) (I : List Int) (hI : I.length ≤ 1048576) (r : Int × Bool) : ∀ (rs : List Int) (j : Nat) (b : Int), I.drop j = rs → Ev (fun k => spec_RowWidth.l0 k d (lessAll b rs) (wrap64 ((y : Int) + 1)) X Y v) r →
    Ev (fun k => spec_RowWidth.l1 k d b y I (I.length : Int) j X Y v) r
  | [], j, b, h, hr => by
      have h0 := drop_nil h
      refine Ev.next1 hr fun k hk => ?_
      simp only [spec_RowWidth.l1]
      rw [if_neg (by omega)]; exact hk
  | q :: rs, j, b, h, hr => by
      obtain ⟨h1, h2, h3⟩ := drop_cons h
      have e : rd I j = q := rd_drop h
      refine Ev.next1 (spec_RowWidth_l1 d X Y v y I hI r rs (j + 1) (less b q) h3 hr) fun k hk => ?_
      simp only [spec_RowWidth.l1, e]
      rw [if_pos (by omega), if_pos (by omega), if_pos (by omega), wrap_succ h1 (by omega)]
      unfold less at hk
      by_cases h0 : b = 0
      · rw [if_pos h0] at hk ⊢; exact hk
      · rw [if_neg h0] at hk ⊢
        by_cases h4 : q < b
        · rw [if_pos h4] at hk ⊢; exact hk
        · rw [if_neg h4] at hk ⊢; exact hk
theorem spec_RowWidth_l0 (d : List Bool) (X Y : Int) (v : List Int) (w n h : Nat) (hX : X = (w : Int)) (hY : Y = (h : Int)) (hw : 1 ≤ w ∧ w ≤ 8) (hh : h ≤ 6) (hd : d.length = n) (hn : n ≤ 48) (hwh : h * w = n) : ∀ (m y : Nat) (b : Int), y + m = h →
    Ev (fun k => spec_RowWidth.l0 k d b y X Y v) (widths d w m y b, decide (widths d w m y b > 0))
  | 0, y, b, hy => Ev.next0 fun k => by
      simp only [spec_RowWidth.l0, widths]
      rw [if_neg (by omega)]
      try rfl
  | m + 1, y, b, hy => by
      have hyn : (y + 1) * w ≤ n := by rw [← hwh]; exact Nat.mul_le_mul_right w (by omega)
      have hg := grid_row hw (show y < 6 by omega) hyn (by omega)
      have hl : ((d.drop (y * w)).take w).length ≤ 1048576 := by rw [List.length_take]; omega
      have hc := row_cut d X w y hX (by omega) (by omega) (by omega) (by omega) hg.2.1
      have hr := runs_length ((d.drop (y * w)).take w) 0
      have i0 := spec_RowWidth_l0 d X Y v w n h hX hY hw hh hd hn hwh m (y + 1) (lessAll b (runs ((d.drop (y * w)).take w) 0)) (by omega)
      rw [← hc.2.2.2.2] at i0
      have i1 := spec_RowWidth_l1 d X Y v y (runs ((d.drop (y * w)).take w) 0) (by omega) _ (runs ((d.drop (y * w)).take w) 0) 0 b rfl i0
      have hlt : (y : Int) < Y := by omega
      clear hY hyn hg hwh hd hn hh hw
      refine Ev.next2 i1 (spec_dgRuns_ev ((d.drop (y * w)).take w) hl) fun k h1 h2 => ?_
      simp only [spec_RowWidth.l0]
      rw [if_pos hlt, if_pos hc.1, if_pos hc.2.1, if_pos hc.2.2.1, hc.2.2.2.1, h2, Option.bind_some]
      exact h1
theorem spec_RowWidth_ev (x y : Int) (l : List Int) (d : List Bool) (hn : l.length ≤ 9223372036854775807) : Ev (fun k => spec_RowWidth.f k x y l d) (rowWidth x y l d) := by
  by_cases h : benchOk x y l = true ∧ d.length = l.length
  · have hb := bench_len h.1
    have hyx : y.toNat * x.toNat = l.length := by
      have e : ((y.toNat * x.toNat : Nat) : Int) = x * y := by
        rw [Int.natCast_mul, Int.toNat_of_nonneg (by omega), Int.toNat_of_nonneg (by omega), Int.mul_comm]
      omega
    have h0 := spec_RowWidth_l0 d x y l x.toNat l.length y.toNat (by omega) (by omega) (by omega) (by omega) h.2 (by omega) hyx y.toNat 0 0 (by omega)
    refine (ev_and (spec_dgBoth_ev x y l d hn) <| ev_one h0).ev fun k ⟨h1, h2⟩ => ?_
    simp only [spec_RowWidth.f, h1, Option.bind_some]
    rw [if_pos (by simpa using h), rowWidth, if_pos h]
    exact h2
  · refine (ev_one (spec_dgBoth_ev x y l d hn)).ev fun k h1 => ?_
    simp only [spec_RowWidth.f, h1, Option.bind_some]
    rw [if_neg (by simpa using h), rowWidth, if_neg h]
theorem laws_toIntS_l0 (l : List Int) (hn : l.length ≤ 9223372036854775807) : ∀ (ys : List Int) (i : Nat) (x : List Int), l.drop i = ys → x.length = l.length → x.take i = l.take i → Ev (fun k => laws_toIntS.l0 k l x i) l
  | [], i, x, h, hl, ht => Ev.next0 fun k => by
      have h0 := drop_nil h
      have h1 : l.length = l.length := by simp
      simp only [laws_toIntS.l0]
      rw [if_neg (by omega), copy_end hl ht (by omega)]
  | y :: ys, i, x, h, hl, ht => by
      obtain ⟨h1, h2, h3⟩ := drop_cons h
      have hm : l.length = l.length := by simp
      have hg : l[i]? = some y := by simp [h2]
      obtain ⟨c1, c2⟩ := copy_step hg hl ht
      refine Ev.next1 (laws_toIntS_l0 l hn ys (i + 1) (x.set i y) h3 c1 c2) fun k hk => ?_
      have e := rd_drop h
      simp only [laws_toIntS.l0, e, Option.bind_some]
      rw [if_pos (by omega), if_pos (by omega), if_pos (by omega), wrap_succ h1 hn, toNat_cast]
      exact hk
theorem laws_toIntS_ev (l : List Int) (hn : l.length ≤ 35184372088832) : Ev (fun k => laws_toIntS.f k l) l :=
  Ev.of1 (laws_toIntS_l0 l (by omega) l 0 (List.replicate ((l.length : Int)).toNat 0) rfl (by simp) rfl) fun k hk => by
    simp only [laws_toIntS.f]
    rw [if_pos (by omega), if_pos (by omega)]
    exact hk
theorem laws_toBench_ev (x y : Int) (l : List Int) (hn : l.length ≤ 1048576) : Ev (fun k => laws_toBench.f k x y l) (x, y, l) :=
  Ev.of1 (laws_toIntS_ev l (by omega)) fun k hk => by simp only [laws_toBench.f, hk, Option.bind_some]
theorem laws_toBoolS_l0 (l : List Bool) (hn : l.length ≤ 9223372036854775807) : ∀ (ys : List Bool) (i : Nat) (x : List Bool), l.drop i = ys → x.length = l.length → x.take i = l.take i → Ev (fun k => laws_toBoolS.l0 k l x i) l
  | [], i, x, h, hl, ht => Ev.next0 fun k => by
      have h0 := drop_nil h
      have h1 : l.length = l.length := by simp
      simp only [laws_toBoolS.l0]
      rw [if_neg (by omega), copy_end hl ht (by omega)]
  | y :: ys, i, x, h, hl, ht => by
      obtain ⟨h1, h2, h3⟩ := drop_cons h
      have hm : l.length = l.length := by simp
      have hg : l[i]? = some y := by simp [h2]
      obtain ⟨c1, c2⟩ := copy_step hg hl ht
      refine Ev.next1 (laws_toBoolS_l0 l hn ys (i + 1) (x.set i y) h3 c1 c2) fun k hk => ?_
      have e := rdOf_drop (d := false) h
      simp only [laws_toBoolS.l0, e, Option.bind_some]
      rw [if_pos (by omega), if_pos (by omega), if_pos (by omega), wrap_succ h1 hn, toNat_cast]
      exact hk
theorem laws_toBoolS_ev (l : List Bool) (hn : l.length ≤ 281474976710656) : Ev (fun k => laws_toBoolS.f k l) l :=
  Ev.of1 (laws_toBoolS_l0 l (by omega) l 0 (List.replicate ((l.length : Int)).toNat false) rfl (by simp) rfl) fun k hk => by
    simp only [laws_toBoolS.f]
    rw [if_pos (by omega), if_pos (by omega)]
    exact hk
theorem impl_goodValues_l0 (l : List Int) (hn : l.length ≤ 9223372036854775807) : ∀ (ys : List Int) (i : Nat), l.drop i = ys → Ev (fun k => impl_goodValues.l0 k l (l.length : Int) i) (allIn (-1000000) 1000000 ys)
  | [], i, h => Ev.next0 fun k => by
      have h0 := drop_nil h
      simp only [impl_goodValues.l0, allIn]
      rw [if_neg (by omega)]
  | y :: ys, i, h => by
      obtain ⟨h1, h2, h3⟩ := drop_cons h
      refine Ev.next1 (impl_goodValues_l0 l hn ys (i + 1) h3) fun k hk => ?_
      have e := rd_drop h
      simp only [impl_goodValues.l0, e]
      rw [if_pos (by omega), if_pos (by omega), if_pos (by omega), wrap_succ h1 hn]
      by_cases hy : -1000000 ≤ y
      · rw [if_neg (by omega)]
        by_cases hz : y ≤ 1000000
        · rw [if_neg (by omega), hk]; simp [allIn, hy, hz]
        · rw [if_pos (by omega)]; simp [allIn, hz]
      · rw [if_pos (by omega)]; simp [allIn, hy]
theorem impl_goodValues_ev (l : List Int) (hn : l.length ≤ 9223372036854775807) : Ev (fun k => impl_goodValues.f k l) (decide (1 ≤ l.length ∧ l.length ≤ 120) && allIn (-1000000) 1000000 l) := by
  by_cases h : 1 ≤ l.length ∧ l.length ≤ 120
  · have h1 : Ev (fun k => impl_goodValues.j0 k l false) (allIn (-1000000) 1000000 l) := Ev.next1 (impl_goodValues_l0 l hn l 0 rfl) fun k hk => by
      simp only [impl_goodValues.j0]; rw [if_neg (by simp)]; exact hk
    refine Ev.of1 h1 fun k hk => ?_
    have e : decide ((l.length : Int) > 120) = false := by simp; omega
    simp only [impl_goodValues.f]
    rw [if_neg (by omega), e, hk]; simp [h]
  · have h1 : Ev (fun k => impl_goodValues.j0 k l true) false := Ev.next0 fun k => by simp [impl_goodValues.j0]
    refine Ev.of1 h1 fun k hk => ?_
    simp only [impl_goodValues.f]
    by_cases h2 : l.length < 1
    · rw [if_pos (by omega), hk]; simp; omega
    · have e : decide ((l.length : Int) > 120) = true := by simp; omega
      rw [if_neg (by omega), e, hk]; simp; omega
theorem impl_IsBench_ev (x y : Int) (l : List Int) (hn : l.length ≤ 9223372036854775807) : Ev (fun k => impl_IsBench.f k x y l) (benchOk x y l) := by
  refine Ev.of1 (impl_goodValues_ev l hn) fun k hk => ?_
  simp only [impl_IsBench.f, hk, Option.bind_some, benchOk]
  by_cases hx : 1 ≤ x ∧ x ≤ 8
  · rw [if_neg (by omega), if_neg (by omega)]
    by_cases hy : 1 ≤ y ∧ y ≤ 6
    · have hp := bench_prod hx hy
      rw [if_neg (by omega), if_neg (by omega), wrap_id (by omega) (by omega)]
      by_cases hl : (l.length : Int) = x * y
      · rw [if_pos hl]; congr 1
        rw [decide_eq_true (show 1 ≤ l.length ∧ l.length ≤ 120 by omega)]
        simp [hx, hy, hl]
      · rw [if_neg hl]; congr 1; symm; simp [hl]
    · have e : decide (1 ≤ x ∧ x ≤ 8 ∧ 1 ≤ y ∧ y ≤ 6 ∧ (l.length : Int) = x * y) = false := by simp; omega
      rw [e]; split
      · simp
      · rw [if_pos (by omega)]; simp
  · have e : decide (1 ≤ x ∧ x ≤ 8 ∧ 1 ≤ y ∧ y ≤ 6 ∧ (l.length : Int) = x * y) = false := by simp; omega
    rw [e]; split
    · simp
    · rw [if_pos (by omega)]; simp
theorem impl_isDug_ev (x y : Int) (l : List Int) (d : List Bool) (hn : l.length ≤ 9223372036854775807) : Ev (fun k => impl_isDug.f k x y l d) (benchOk x y l && decide (d.length = l.length)) :=
  Ev.of1 (impl_IsBench_ev x y l hn) fun k hk => by
    simp only [impl_isDug.f, hk, Option.bind_some]
    by_cases h : benchOk x y l = true
    · rw [if_pos h, h]; congr 1; simp only [Bool.true_and]; rw [Bool.eq_iff_iff]; simp; omega
    · rw [if_neg h]; simp [h]
-- needs: spec_dgRuns
theorem impl_shortestRun_j2t (row : List Bool) (x3 x4 : Int) (j : Nat) (r : Int) (hj : j < row.length) (hn : row.length ≤ 1048576) (h : Ev (fun k => impl_shortestRun.l0 k row (less x3 x4) 0 row (row.length : Int) ((j + 1 : Nat) : Int)) r) :
    Ev (fun k => impl_shortestRun.j2 k row x3 x4 row (row.length : Int) j true) r :=
  Ev.next1 h fun k hk => by
    simp only [impl_shortestRun.j2, if_true]
    rw [wrap_succ hj (by omega)]
    unfold less at hk
    by_cases h0 : x3 = 0
    · rw [if_pos h0] at hk ⊢; exact hk
    · rw [if_neg h0] at hk ⊢
      by_cases h4 : x4 < x3
      · rw [if_pos h4] at hk ⊢; exact hk
      · rw [if_neg h4] at hk ⊢; exact hk
theorem impl_shortestRun_j2f (row : List Bool) (x3 x4 : Int) (j : Nat) (r : Int) (hj : j < row.length) (hn : row.length ≤ 1048576) (h : Ev (fun k => impl_shortestRun.l0 k row x3 x4 row (row.length : Int) ((j + 1 : Nat) : Int)) r) :
    Ev (fun k => impl_shortestRun.j2 k row x3 x4 row (row.length : Int) j false) r :=
  Ev.next1 h fun k hk => by
    simp only [impl_shortestRun.j2, Bool.false_eq_true, if_false]
    rw [wrap_succ hj (by omega)]
    exact hk
theorem impl_shortestRun_l0 (row : List Bool) (hn : row.length ≤ 1048576) : ∀ (bs : List Bool) (j : Nat) (b n : Int), row.drop j = bs → 0 ≤ n ∧ n ≤ j →
    Ev (fun k => impl_shortestRun.l0 k row b n row (row.length : Int) j) (lessAll b (runs bs n))
  | [], j, b, n, h, hm => Ev.next0 fun k => by
      have h0 := drop_nil h
      simp only [impl_shortestRun.l0, runs, lessAll]
      rw [if_neg (by omega)]
  | c :: bs, j, b, n, h, hm => by
      obtain ⟨h1, h2, h3⟩ := drop_cons h
      have e := rdOf_drop (d := false) h
      cases c with
      | true =>
        by_cases hl : bs = []
        · have hj : j + 1 = row.length := by have := drop_nil (hl ▸ h3); omega
          have i0 := impl_shortestRun_l0 row hn bs (j + 1) (less b (n + 1)) 0 h3 (by omega)
          have i1 := impl_shortestRun_j2t row b (n + 1) j _ h1 hn i0
          have i2 : Ev (fun k => impl_shortestRun.j1 k row b (n + 1) j true row (row.length : Int) j) (lessAll (less b (n + 1)) (runs bs 0)) :=
            Ev.next1 i1 fun k hk => by
              simp only [impl_shortestRun.j1]
              rw [if_pos (by omega), if_pos trivial, wrap_id (x := (row.length : Int) - 1) (by omega) (by omega), show (((j : Int)) == (row.length : Int) - 1) = true by simp; omega]
              exact hk
          refine Ev.next1 i2 fun k hk => ?_
          simp only [impl_shortestRun.l0, e, runs, if_true, if_pos hl]
          rw [if_pos (by omega), if_pos (by omega), if_pos (by omega), wrap_id (x := n + 1) (by omega) (by omega)]
          have e0 : runs bs 0 = [] := by rw [hl]; rfl
          rw [e0] at hk; exact hk
        · have hj : j + 1 ≠ row.length := fun q => hl (by rw [← h3, List.drop_of_length_le (by omega)])
          have i0 := impl_shortestRun_l0 row hn bs (j + 1) b (n + 1) h3 (by omega)
          have i1 := impl_shortestRun_j2f row b (n + 1) j _ h1 hn i0
          have i2 : Ev (fun k => impl_shortestRun.j1 k row b (n + 1) j true row (row.length : Int) j) (lessAll b (runs bs (n + 1))) :=
            Ev.next1 i1 fun k hk => by
              simp only [impl_shortestRun.j1]
              rw [if_pos (by omega), if_pos trivial, wrap_id (x := (row.length : Int) - 1) (by omega) (by omega), show (((j : Int)) == (row.length : Int) - 1) = false by simp; omega]
              exact hk
          refine Ev.next1 i2 fun k hk => ?_
          simp only [impl_shortestRun.l0, e, runs, if_true, if_neg hl]
          rw [if_pos (by omega), if_pos (by omega), if_pos (by omega), wrap_id (x := n + 1) (by omega) (by omega)]
          exact hk
      | false =>
        by_cases hp : n > 0
        · have i0 := impl_shortestRun_l0 row hn bs (j + 1) (less b n) 0 h3 (by omega)
          have i1 := impl_shortestRun_j2t row b n j _ h1 hn i0
          have i2 : Ev (fun k => impl_shortestRun.j1 k row b n j false row (row.length : Int) j) (lessAll (less b n) (runs bs 0)) :=
            Ev.next1 i1 fun k hk => by
              simp only [impl_shortestRun.j1]
              rw [if_pos (by omega), if_neg (by simp)]
              exact hk
          refine Ev.next1 i2 fun k hk => ?_
          simp only [impl_shortestRun.l0, e, runs, Bool.false_eq_true, if_false, if_pos hp, lessAll]
          rw [if_pos (by omega), if_pos (by omega), if_pos (by omega)]
          exact hk
        · obtain rfl : n = 0 := by omega
          have i0 := impl_shortestRun_l0 row hn bs (j + 1) b 0 h3 (by omega)
          have i1 := impl_shortestRun_j2f row b 0 j _ h1 hn i0
          have i2 : Ev (fun k => impl_shortestRun.j1 k row b 0 j false row (row.length : Int) j) (lessAll b (runs bs 0)) :=
            Ev.next1 i1 fun k hk => by
              simp only [impl_shortestRun.j1]
              rw [if_neg (by omega)]
              exact hk
          refine Ev.next1 i2 fun k hk => ?_
          simp only [impl_shortestRun.l0, e, runs, Bool.false_eq_true, if_false, if_neg hp]
          rw [if_pos (by omega), if_pos (by omega), if_pos (by omega)]
          exact hk
theorem impl_shortestRun_ev (row : List Bool) (hn : row.length ≤ 1048576) : Ev (fun k => impl_shortestRun.f k row) (lessAll 0 (runs row 0)) :=
  Ev.of1 (impl_shortestRun_l0 row hn row 0 0 0 rfl (by omega)) fun k hk => by simp only [impl_shortestRun.f]; exact hk
-- needs: spec_RowWidth
theorem impl_RowWidth_l0 (d : List Bool) (X Y : Int) (v : List Int) (w n h : Nat) (hX : X = (w : Int)) (hY : Y = (h : Int)) (hw : 1 ≤ w ∧ w ≤ 8) (hh : h ≤ 6) (hd : d.length = n) (hn : n ≤ 48) (hwh : h * w = n) : ∀ (m y : Nat) (b : Int), y + m = h → 0 ≤ b →
    Ev (fun k => impl_RowWidth.l0 k d b y X Y v) (widths d w m y b, decide (widths d w m y b > 0))
  | 0, y, b, hy, hb => Ev.next0 fun k => by
      simp only [impl_RowWidth.l0, widths]
      rw [if_neg (by omega)]
      try rfl
  | m + 1, y, b, hy, hb => by
      have hyn : (y + 1) * w ≤ n := by rw [← hwh]; exact Nat.mul_le_mul_right w (by omega)
      have hg := grid_row hw (show y < 6 by omega) hyn (by omega)
      have hl : ((d.drop (y * w)).take w).length ≤ 1048576 := by rw [List.length_take]; omega
      have hc := row_cut d X w y hX (by omega) (by omega) (by omega) (by omega) hg.2.1
      have hp := runs_pos ((d.drop (y * w)).take w) 0 (by omega)
      have i0 := impl_RowWidth_l0 d X Y v w n h hX hY hw hh hd hn hwh m (y + 1) (lessAll b (runs ((d.drop (y * w)).take w) 0)) (by omega) (lessAll_pos _ b hb hp)
      rw [← hc.2.2.2.2] at i0
      have hlt : (y : Int) < Y := by omega
      have hm := lessAll_comb (runs ((d.drop (y * w)).take w) 0) b hb hp
      clear hY hyn hg hwh hd hn hh hw
      refine Ev.next2 i0 (impl_shortestRun_ev ((d.drop (y * w)).take w) hl) fun k h1 h2 => ?_
      simp only [impl_RowWidth.l0]
      rw [if_pos hlt, if_pos hc.1, if_pos hc.2.1, if_pos hc.2.2.1, hc.2.2.2.1, h2, Option.bind_some]
      refine Eq.trans ?_ h1
      rw [hm]
      generalize lessAll 0 (runs ((d.drop (y * w)).take w) 0) = q
      unfold comb less
      by_cases hq : q > 0
      · rw [if_pos hq, if_pos hq]
        by_cases h0 : b = 0
        · rw [if_pos h0, if_pos h0]
        · rw [if_neg h0, if_neg h0]
          by_cases h4 : q < b
          · rw [if_pos h4, if_pos h4]
          · rw [if_neg h4, if_neg h4]
      · rw [if_neg hq, if_neg hq]
theorem impl_RowWidth_ev (x y : Int) (l : List Int) (d : List Bool) (hn : l.length ≤ 9223372036854775807) : Ev (fun k => impl_RowWidth.f k x y l d) (rowWidth x y l d) := by
  by_cases h : benchOk x y l = true ∧ d.length = l.length
  · have hb := bench_len h.1
    have hyx : y.toNat * x.toNat = l.length := by
      have e : ((y.toNat * x.toNat : Nat) : Int) = x * y := by
        rw [Int.natCast_mul, Int.toNat_of_nonneg (by omega), Int.toNat_of_nonneg (by omega), Int.mul_comm]
      omega
    have h0 := impl_RowWidth_l0 d x y l x.toNat l.length y.toNat (by omega) (by omega) (by omega) (by omega) h.2 (by omega) hyx y.toNat 0 0 (by omega) (by omega)
    refine (ev_and (impl_isDug_ev x y l d hn) <| ev_one h0).ev fun k ⟨h1, h2⟩ => ?_
    simp only [impl_RowWidth.f, h1, Option.bind_some]
    rw [if_pos (by simpa using h), rowWidth, if_pos h]
    exact h2
  · refine (ev_one (impl_isDug_ev x y l d hn)).ev fun k h1 => ?_
    simp only [impl_RowWidth.f, h1, Option.bind_some]
    rw [if_neg (by simpa using h), rowWidth, if_neg h]
theorem laws_eqIntS_l0 (l : List Int) (hn : l.length ≤ 9223372036854775807) : ∀ (ys : List Int) (i : Nat), l.drop i = ys → Ev (fun k => laws_eqIntS.l0 k l l i) true
  | [], i, h => Ev.next0 fun k => by
      have h0 := drop_nil h
      simp only [laws_eqIntS.l0]
      rw [if_neg (by omega)]
  | y :: ys, i, h => by
      obtain ⟨h1, h2, h3⟩ := drop_cons h
      refine Ev.next1 (laws_eqIntS_l0 l hn ys (i + 1) h3) fun k hk => ?_
      have e := rd_drop h
      simp only [laws_eqIntS.l0, e]
      rw [if_pos (by omega), if_pos (by omega), if_pos (by omega), if_pos (by simp), wrap_succ h1 hn]
      exact hk
theorem laws_eqIntS_ev (l : List Int) (hn : l.length ≤ 9223372036854775807) : Ev (fun k => laws_eqIntS.f k l l) true :=
  Ev.of1 (laws_eqIntS_l0 l hn l 0 rfl) fun k hk => by
    simp only [laws_eqIntS.f]
    rw [if_pos (by simp)]
    exact hk
theorem laws_eqBench_ev (x y : Int) (l : List Int) (hn : l.length ≤ 1048576) : Ev (fun k => laws_eqBench.f k x y l x y l) true :=
  Ev.of1 (laws_eqIntS_ev l (by omega)) fun k hk => by simp [laws_eqBench.f, hk]
theorem laws_eqBoolS_l0 (l : List Bool) (hn : l.length ≤ 9223372036854775807) : ∀ (ys : List Bool) (i : Nat), l.drop i = ys → Ev (fun k => laws_eqBoolS.l0 k l l i) true
  | [], i, h => Ev.next0 fun k => by
      have h0 := drop_nil h
      simp only [laws_eqBoolS.l0]
      rw [if_neg (by omega)]
  | y :: ys, i, h => by
      obtain ⟨h1, h2, h3⟩ := drop_cons h
      refine Ev.next1 (laws_eqBoolS_l0 l hn ys (i + 1) h3) fun k hk => ?_
      have e := rdOf_drop (d := false) h
      simp only [laws_eqBoolS.l0, e]
      rw [if_pos (by omega), if_pos (by omega), if_pos (by omega), if_neg (by simp), wrap_succ h1 hn]
      exact hk
theorem laws_eqBoolS_ev (l : List Bool) (hn : l.length ≤ 9223372036854775807) : Ev (fun k => laws_eqBoolS.f k l l) true :=
  Ev.of1 (laws_eqBoolS_l0 l hn l 0 rfl) fun k hk => by
    simp only [laws_eqBoolS.f]
    rw [if_pos (by simp)]
    exact hk
theorem j0_ev (x y : Int) (l : List Int) (d : List Bool) (hn : l.length ≤ 1048576) (hm : d.length ≤ 1048576) : Ev (fun k => laws_FnExactRowWidth.j0 k d d false x y l x y l) true :=
  (ev_and (laws_toBench_ev x y l hn) <| ev_and (laws_eqBench_ev x y l hn) <| ev_and (laws_toBoolS_ev d (by omega)) <| ev_one (laws_eqBoolS_ev d (by omega))).next fun k ⟨h1, h2, h3, h4⟩ => by
    simp [laws_FnExactRowWidth.j0, h1, h2, h3, h4]
theorem FnExactRowWidth : Stat.FnExactRowWidth := by
  intro x y l d _ _ hl hd
  refine Ev.rounds ?_
  by_cases hq : (d.length : Int) > 1048576
  · exact Ev.all fun k => by simp only [laws_FnExactRowWidth.f]; rw [if_pos hq]
  by_cases hg : (1048576 : Int) < l.length
  · refine Ev.all fun k => ?_
    simp only [laws_FnExactRowWidth.f, laws_szBench_eq x y l 1048576 (by omega) (by omega) hl.1, Option.bind_some]
    rw [if_neg hq, if_pos hg, if_pos (by omega)]
  · have hn : l.length ≤ 1048576 := by omega
    have hm : d.length ≤ 1048576 := by omega
    refine (ev_and (laws_toBench_ev x y l hn) <| ev_and (laws_toBoolS_ev d (by omega)) <| ev_and (j0_ev x y l d hn hm) <| ev_and (spec_RowWidth_ev x y l d (by omega)) <| ev_one (impl_RowWidth_ev x y l d (by omega))).ev fun k ⟨h1, h2, h3, h4, h5⟩ => ?_
    simp only [laws_FnExactRowWidth.f, laws_szBench_eq x y l 1048576 (by omega) (by omega) hl.1, h1, h2, h4, h5, Option.bind_some]
    rw [if_neg hq, if_neg hg, if_neg (by omega)]
    simp [h3]
end Go.Proofs.Ytoaglacdklmafaa.PureFnExactRowWidth
namespace Go.Proofs.Ytoaglacdklmafaa.Pure
theorem FnExactRowWidth : Stat.FnExactRowWidth := PureFnExactRowWidth.FnExactRowWidth
end Go.Proofs.Ytoaglacdklmafaa.Pure
