/- The law FnExactFleetReady over numbers and lists: it is true of every input. -/
import Derived.Test.YtoaglacdklmafaaStatFnExactFleetReady
import Derived.Test.YtoaglacdklmafaaWMore
set_option linter.unusedVariables false
set_option linter.unusedSimpArgs false
namespace Go.Proofs.Ytoaglacdklmafaa.Kit
open Go.RowKit Go.Proofs.YtoaglacdklmafaaW.PrintWords Go.Proofs.YtoaglacdklmafaaW.PrintMore

/-! ### Rounds -/
theorem Ev.all {α : Type} {g : Nat → Option α} {r : α} (h : ∀ k, g k = some r) : Ev g r := ⟨0, fun k _ => h k⟩
theorem Ev.of1 {α β : Type} {g : Nat → Option α} {f : Nat → Option β} {r : α} {b : β} (h : Ev f b) (k : ∀ k, f k = some b → g k = some r) : Ev g r := by
  obtain ⟨K, h⟩ := h; exact ⟨K, fun n hn => k n (h n hn)⟩
theorem Ev.of2 {α β γ : Type} {g : Nat → Option α} {f : Nat → Option β} {f' : Nat → Option γ} {r : α} {b : β} {c : γ} (h : Ev f b) (h' : Ev f' c) (k : ∀ k, f k = some b → f' k = some c → g k = some r) : Ev g r := by
  obtain ⟨K, h⟩ := h; obtain ⟨K', h'⟩ := h'; exact ⟨K + K', fun n hn => k n (h n (by omega)) (h' n (by omega))⟩
theorem Ev.of3 {α β γ δ : Type} {g : Nat → Option α} {f : Nat → Option β} {f' : Nat → Option γ} {f'' : Nat → Option δ} {r : α} {b : β} {c : γ} {d : δ} (h : Ev f b) (h' : Ev f' c) (h'' : Ev f'' d)
    (k : ∀ k, f k = some b → f' k = some c → f'' k = some d → g k = some r) : Ev g r := by
  obtain ⟨K, h⟩ := h; obtain ⟨K', h'⟩ := h'; obtain ⟨K'', h''⟩ := h''
  exact ⟨K + K' + K'', fun n hn => k n (h n (by omega)) (h' n (by omega)) (h'' n (by omega))⟩
/-- Two at once: a pair of facts for one number of rounds. -/
def Both {α β : Type} (f : Nat → Option α) (g : Nat → Option β) (a : α) (b : β) : Prop := ∃ K, ∀ k, K ≤ k → f k = some a ∧ g k = some b
theorem Ev.next0 {α : Type} {g : Nat → Option α} {r : α} (h : ∀ k, g (k + 1) = some r) : Ev g r :=
  ⟨1, fun n hn => by obtain ⟨m, rfl⟩ : ∃ m, n = m + 1 := ⟨n - 1, by omega⟩; exact h m⟩
theorem Ev.next1 {α β : Type} {g : Nat → Option α} {f : Nat → Option β} {r : α} {b : β} (h : Ev f b) (k : ∀ k, f k = some b → g (k + 1) = some r) : Ev g r := by
  obtain ⟨K, h⟩ := h
  exact ⟨K + 1, fun n hn => by obtain ⟨m, rfl⟩ : ∃ m, n = m + 1 := ⟨n - 1, by omega⟩; exact k m (h m (by omega))⟩
theorem Ev.next2 {α β γ : Type} {g : Nat → Option α} {f : Nat → Option β} {f' : Nat → Option γ} {r : α} {b : β} {c : γ} (h : Ev f b) (h' : Ev f' c) (k : ∀ k, f k = some b → f' k = some c → g (k + 1) = some r) : Ev g r := by
  obtain ⟨K, h⟩ := h; obtain ⟨K', h'⟩ := h'
  exact ⟨K + K' + 1, fun n hn => by obtain ⟨m, rfl⟩ : ∃ m, n = m + 1 := ⟨n - 1, by omega⟩; exact k m (h m (by omega)) (h' m (by omega))⟩
theorem Ev.next3 {α β γ δ : Type} {g : Nat → Option α} {f : Nat → Option β} {f' : Nat → Option γ} {f'' : Nat → Option δ} {r : α} {b : β} {c : γ} {d : δ} (h : Ev f b) (h' : Ev f' c) (h'' : Ev f'' d)
    (k : ∀ k, f k = some b → f' k = some c → f'' k = some d → g (k + 1) = some r) : Ev g r := by
  obtain ⟨K, h⟩ := h; obtain ⟨K', h'⟩ := h'; obtain ⟨K'', h''⟩ := h''
  exact ⟨K + K' + K'' + 1, fun n hn => by obtain ⟨m, rfl⟩ : ∃ m, n = m + 1 := ⟨n - 1, by omega⟩; exact k m (h m (by omega)) (h' m (by omega)) (h'' m (by omega))⟩
theorem Ev.uniq {α : Type} {g : Nat → Option α} {r s : α} (h : Ev g r) (k : Ev g s) : r = s := by
  obtain ⟨K, h⟩ := h; obtain ⟨K', k⟩ := k
  have a := h (K + K') (by omega); have b := k (K + K') (by omega)
  rw [a] at b; exact Option.some.inj b

/-- From some number of rounds on. -/
def Evt (p : Nat → Prop) : Prop := ∃ K, ∀ k, K ≤ k → p k
theorem ev_one {α : Type} {f : Nat → Option α} {a : α} (h : Ev f a) : Evt (fun k => f k = some a) := h
theorem ev_and {α : Type} {f : Nat → Option α} {a : α} {p : Nat → Prop} (h : Ev f a) (h' : Evt p) : Evt (fun k => f k = some a ∧ p k) := by
  obtain ⟨K, h⟩ := h; obtain ⟨K', h'⟩ := h'; exact ⟨K + K', fun n hn => ⟨h n (by omega), h' n (by omega)⟩⟩
theorem Evt.ev {α : Type} {g : Nat → Option α} {r : α} {p : Nat → Prop} (h : Evt p) (k : ∀ k, p k → g k = some r) : Ev g r := by
  obtain ⟨K, h⟩ := h; exact ⟨K, fun n hn => k n (h n hn)⟩
theorem Evt.next {α : Type} {g : Nat → Option α} {r : α} {p : Nat → Prop} (h : Evt p) (k : ∀ k, p k → g (k + 1) = some r) : Ev g r := by
  obtain ⟨K, h⟩ := h
  exact ⟨K + 1, fun n hn => by obtain ⟨m, rfl⟩ : ∃ m, n = m + 1 := ⟨n - 1, by omega⟩; exact k m (h m (by omega))⟩

/-! ### Whole numbers -/
theorem wrap_id {x : Int} (h0 : -9223372036854775808 ≤ x) (h1 : x ≤ 9223372036854775807) : wrap64 x = x := by unfold wrap64; omega
theorem wrap_succ {i n : Nat} (h : i < n) (hn : n ≤ 9223372036854775807) : wrap64 ((i : Int) + 1) = ((i + 1 : Nat) : Int) := by unfold wrap64; omega
theorem toNat_cast (i : Nat) : ((i : Int)).toNat = i := by omega

theorem mx_eq (a b : Int) : mx a b = max a b := by unfold mx; split <;> omega
theorem mn_eq (a b : Int) : mn a b = min a b := by unfold mn; split <;> omega

/-! ### Lists from an index on -/
theorem drop_cons {α : Type} {xs ys : List α} {y : α} {i : Nat} (h : xs.drop i = y :: ys) : i < xs.length ∧ xs[i]? = some y ∧ xs.drop (i + 1) = ys := by
  have hlt : i < xs.length := by
    by_cases hlt : i < xs.length
    · exact hlt
    · rw [List.drop_of_length_le (by omega)] at h; cases h
  rw [List.drop_eq_getElem_cons hlt] at h
  injection h with h1 h2
  exact ⟨hlt, by rw [List.getElem?_eq_getElem hlt, h1], h2⟩
theorem drop_nil {α : Type} {xs : List α} {i : Nat} (h : xs.drop i = []) : xs.length ≤ i := by simpa using h
theorem getD_drop {α : Type} {xs ys : List α} {y d : α} {i : Nat} (h : xs.drop i = y :: ys) : xs.getD ((i : Int)).toNat d = y := by
  rw [toNat_cast, List.getD_eq_getElem?_getD, (drop_cons h).2.1]; rfl
theorem rd_drop {xs ys : List Int} {y : Int} {i : Nat} (h : xs.drop i = y :: ys) : rd xs (i : Int) = y := getD_drop h
theorem rdOf_drop {α : Type} {xs ys : List α} {y d : α} {i : Nat} (h : xs.drop i = y :: ys) : rdOf d xs (i : Int) = y := getD_drop h
theorem getD_get {α : Type} {xs : List α} {y d : α} {i : Nat} (h : xs[i]? = some y) : xs.getD ((i : Int)).toNat d = y := by
  rw [toNat_cast, List.getD_eq_getElem?_getD, h]; rfl
theorem rd_get {xs : List Int} {y : Int} {i : Nat} (h : xs[i]? = some y) : rd xs (i : Int) = y := getD_get h
theorem rdOf_get {α : Type} {xs : List α} {y d : α} {i : Nat} (h : xs[i]? = some y) : rdOf d xs (i : Int) = y := getD_get h
theorem drop_of_get {α : Type} {xs : List α} {y : α} {i : Nat} (h : xs[i]? = some y) : xs.drop i = y :: xs.drop (i + 1) := by
  obtain ⟨hl, rfl⟩ := List.getElem?_eq_some_iff.1 h
  exact List.drop_eq_getElem_cons hl

/-- What is left of a, n taken off; -1 if it isn't enough. -/
def left (a : Int) (n : Nat) : Int := if a < (n : Int) then -1 else a - (n : Int)
theorem left_lt {a : Int} {n : Nat} (h : a < (n : Int)) : left a n = -1 := if_pos h
theorem left_ge {a : Int} {n : Nat} (h : (n : Int) ≤ a) : left a n = a - (n : Int) := if_neg (by omega)
/-- How many values rows hold, the rows counted too. -/
def tot : List (List Int) → Nat
  | [] => 0
  | y :: ys => 1 + y.length + tot ys
def sumLen : List (List Int) → Nat
  | [] => 0
  | y :: ys => y.length + sumLen ys
theorem tot_eq : ∀ ls : List (List Int), tot ls = ls.length + sumLen ls
  | [] => rfl
  | y :: ys => by simp only [tot, sumLen, List.length_cons, tot_eq ys]; omega
theorem sumLen_mem : ∀ {ls : List (List Int)} {y : List Int}, y ∈ ls → y.length ≤ sumLen ls
  | z :: zs, y, h => by
    rcases List.mem_cons.1 h with rfl | h
    · simp only [sumLen]; omega
    · have := sumLen_mem h; simp only [sumLen]; omega

/-! ### A list that is copied, element for element -/
theorem copy_step {α : Type} {m x : List α} {y : α} {i : Nat} (hm : m[i]? = some y) (hl : x.length = m.length) (ht : x.take i = m.take i) : (x.set i y).length = m.length ∧ (x.set i y).take (i + 1) = m.take (i + 1) := by
  obtain ⟨hi, rfl⟩ := List.getElem?_eq_some_iff.1 hm
  refine ⟨by simpa using hl, ?_⟩
  apply List.ext_getElem?
  intro j
  have hj : (x.take i)[j]? = (m.take i)[j]? := by rw [ht]
  rw [List.getElem?_take, List.getElem?_take] at *
  by_cases h1 : j < i + 1
  · rw [if_pos h1, if_pos h1]
    by_cases h2 : j = i
    · subst h2
      rw [List.getElem?_set_self (by omega), List.getElem?_eq_getElem hi]
    · rw [List.getElem?_set_ne (by omega)]
      rw [if_pos (by omega), if_pos (by omega)] at hj
      exact hj
  · rw [if_neg h1, if_neg h1]
theorem copy_end {α : Type} {m x : List α} {i : Nat} (hl : x.length = m.length) (ht : x.take i = m.take i) (hi : m.length ≤ i) : x = m := by
  rw [List.take_of_length_le (by omega), List.take_of_length_le hi] at ht; exact ht

/-! ### Strictly increasing lists of 0..n-1 -/
def rise (n : Int) : Int → List Int → Bool
  | _, [] => true
  | p, y :: ys => decide (0 ≤ y ∧ y < n ∧ p < y) && rise n y ys
theorem rise_mem {n : Int} : ∀ {p : Int} {ys : List Int}, rise n p ys = true → ∀ y ∈ ys, 0 ≤ y ∧ y < n ∧ p < y
  | p, [], _, y, hy => by cases hy
  | p, z :: zs, h, y, hy => by
    simp only [rise, Bool.and_eq_true, decide_eq_true_eq] at h
    rcases List.mem_cons.1 hy with rfl | hy
    · exact h.1
    · have := rise_mem h.2 y hy; omega

/-! ### Numbers marked and held -/
def markI : Nat → Int → List Int
  | 0, _ => []
  | n + 1, k => k :: markI n (k + 1)
theorem markI_length : ∀ (n : Nat) (k : Int), (markI n k).length = n
  | 0, _ => rfl
  | n + 1, k => by simp [markI, markI_length n (k + 1)]
theorem markI_get : ∀ (n : Nat) (k : Int) (j : Nat), j < n → (markI n k)[j]? = some (k + j)
  | 0, _, _, h => by omega
  | n + 1, k, 0, _ => by simp [markI]
  | n + 1, k, j + 1, h => by simp only [markI, List.getElem?_cons_succ]; rw [markI_get n (k + 1) j (by omega)]; congr 1; push_cast; omega
def markB : Nat → Int → List Bool
  | 0, _ => []
  | n + 1, k => (Int.tmod k 3 == 0) :: markB n (k + 1)
theorem markB_length : ∀ (n : Nat) (k : Int), (markB n k).length = n
  | 0, _ => rfl
  | n + 1, k => by simp [markB, markB_length n (k + 1)]
theorem markB_get : ∀ (n : Nat) (k : Int) (j : Nat), j < n → (markB n k)[j]? = some (Int.tmod (k + j) 3 == 0)
  | 0, _, _, h => by omega
  | n + 1, k, 0, _ => by simp [markB]
  | n + 1, k, j + 1, h => by simp only [markB, List.getElem?_cons_succ]; rw [markB_get n (k + 1) j (by omega)]; congr 2; congr 1; push_cast; omega
end Go.Proofs.Ytoaglacdklmafaa.Kit
namespace Go.Proofs.Ytoaglacdklmafaa.Model
open Go.RowKit Go.Proofs.YtoaglacdklmafaaW.PrintWords Go.Proofs.Ytoaglacdklmafaa.Kit

/-- Numbers within bounds, all of them. -/
def allIn (lo hi : Int) : List Int → Bool
  | [] => true
  | y :: ys => decide (lo ≤ y ∧ y ≤ hi) && allIn lo hi ys
theorem allIn_mem {lo hi : Int} : ∀ {ys : List Int}, allIn lo hi ys = true → ∀ y ∈ ys, lo ≤ y ∧ y ≤ hi
  | [], _, y, hy => by cases hy
  | z :: zs, h, y, hy => by
    simp only [allIn, Bool.and_eq_true, decide_eq_true_eq] at h
    rcases List.mem_cons.1 hy with rfl | hy
    · exact h.1
    · exact allIn_mem h.2 y hy
theorem allIn_get {lo hi : Int} {ys : List Int} (h : allIn lo hi ys = true) {i : Nat} {y : Int} (hy : ys[i]? = some y) : lo ≤ y ∧ y ≤ hi := allIn_mem h y (List.mem_of_getElem? hy)
theorem allIn_of {lo hi : Int} : ∀ {ys : List Int}, (∀ y ∈ ys, lo ≤ y ∧ y ≤ hi) → allIn lo hi ys = true
  | [], _ => rfl
  | z :: zs, h => by simp only [allIn, Bool.and_eq_true, decide_eq_true_eq]; exact ⟨h z (by simp), allIn_of fun y hy => h y (by simp [hy])⟩

/-- The greatest number of 'false' behind each other; m: so far; n: those just before. -/
def down : List Bool → Int → Int → Int
  | [], m, _ => m
  | b :: bs, m, n => if b = true then down bs (max m 0) 0 else down bs (max m (n + 1)) (n + 1)

def mixStep (a x : Int) : Int := Int.tmod (wrap64 ((Int.tmod (wrap64 ((wrap64 ((wrap64 (33 * a)) + x)) + 11)) 1000003) * (wrap64 ((wrap64 (Int.tdiv (Int.tmod (wrap64 ((wrap64 ((wrap64 (33 * a)) + x)) + 11)) 1000003) 16)) + 7)))) 1000003
def mix (l : List Int) : Int := (l ++ [5, 2]).foldl mixStep (wrap64 (6007 + (l.length : Int)))
def keyOk (l : List Int) : Bool := decide (l.length ≤ 8) && allIn 0 1000000000 l

def gridOk (x y z : Int) : Bool := decide (1 ≤ x ∧ x ≤ 8 ∧ 1 ≤ y ∧ y ≤ 6 ∧ 1 ≤ z ∧ z ≤ 5 ∧ x * y * z ≤ 120)
theorem grid_prod {x y z : Int} (hx : 1 ≤ x ∧ x ≤ 8) (hy : 1 ≤ y ∧ y ≤ 6) (hz : 1 ≤ z ∧ z ≤ 5) : 1 ≤ x * y ∧ x * y ≤ 48 ∧ 1 ≤ x * y * z ∧ x * y * z ≤ 240 := by
  rcases (by omega : x = 1 ∨ x = 2 ∨ x = 3 ∨ x = 4 ∨ x = 5 ∨ x = 6 ∨ x = 7 ∨ x = 8) with rfl | rfl | rfl | rfl | rfl | rfl | rfl | rfl <;>
    rcases (by omega : z = 1 ∨ z = 2 ∨ z = 3 ∨ z = 4 ∨ z = 5) with rfl | rfl | rfl | rfl | rfl <;> omega
theorem grid_ok {x y z : Int} (h : gridOk x y z = true) : (1 ≤ x ∧ x ≤ 8) ∧ (1 ≤ y ∧ y ≤ 6) ∧ (1 ≤ z ∧ z ≤ 5) ∧ 1 ≤ x * y ∧ x * y ≤ 48 ∧ 1 ≤ x * y * z ∧ x * y * z ≤ 120 := by
  simp only [gridOk, decide_eq_true_eq] at h
  have := grid_prod (x := x) (y := y) (z := z) (by omega) (by omega) (by omega)
  omega
theorem grid_wrap {x y z : Int} (hx : 1 ≤ x ∧ x ≤ 8) (hy : 1 ≤ y ∧ y ≤ 6) (hz : 1 ≤ z ∧ z ≤ 5) : wrap64 (wrap64 (x * y) * z) = x * y * z := by
  have := grid_prod hx hy hz
  rw [wrap_id (x := x * y) (by omega) (by omega), wrap_id (by omega) (by omega)]
def holeOk (gx gy gz x y z t g : Int) : Bool := decide (0 ≤ x ∧ x < 10 * gx ∧ 0 ≤ y ∧ y < 10 * gy ∧ 0 ≤ z ∧ z < 10 * gz ∧ 1 ≤ t ∧ t ≤ 1000 ∧ 0 ≤ g ∧ g ≤ 1000)
def benchOk (x y : Int) (l : List Int) : Bool := decide (1 ≤ x ∧ x ≤ 8 ∧ 1 ≤ y ∧ y ≤ 6 ∧ (l.length : Int) = x * y) && allIn (-1000000) 1000000 l
theorem bench_prod {x y : Int} (hx : 1 ≤ x ∧ x ≤ 8) (hy : 1 ≤ y ∧ y ≤ 6) : 1 ≤ x * y ∧ x * y ≤ 48 := by
  rcases (by omega : x = 1 ∨ x = 2 ∨ x = 3 ∨ x = 4 ∨ x = 5 ∨ x = 6 ∨ x = 7 ∨ x = 8) with rfl | rfl | rfl | rfl | rfl | rfl | rfl | rfl <;> omega
theorem bench_len {x y : Int} {l : List Int} (h : benchOk x y l = true) : (1 ≤ x ∧ x ≤ 8) ∧ (1 ≤ y ∧ y ≤ 6) ∧ (l.length : Int) = x * y ∧ 1 ≤ l.length ∧ l.length ≤ 48 := by
  simp only [benchOk, Bool.and_eq_true, decide_eq_true_eq] at h
  have := bench_prod (x := x) (y := y) (by omega) (by omega)
  omega
theorem bench_vals {x y : Int} {l : List Int} (h : benchOk x y l = true) : allIn (-1000000) 1000000 l = true := by
  simp only [benchOk, Bool.and_eq_true] at h; exact h.2
def rowHolds (l : List Int) : Bool := decide (rd l 0 = wrap64 (wrap64 (rd l 2 + rd l 4) + rd l 6)) && (rd l 1 == wrap64 (wrap64 (rd l 3 + rd l 5) + rd l 7))
def rowOk (l : List Int) : Bool := decide (l.length = 12) && allIn 0 100000000000 l
def rowsOk : List (List Int) → Bool
  | [] => true
  | y :: ys => rowOk y && rowsOk ys
theorem rowsOk_mem : ∀ {ls : List (List Int)}, rowsOk ls = true → ∀ y ∈ ls, rowOk y = true
  | z :: zs, h, y, hy => by
    simp only [rowsOk, Bool.and_eq_true] at h
    rcases List.mem_cons.1 hy with rfl | hy
    · exact h.1
    · exact rowsOk_mem h.2 y hy
theorem row_len {y : List Int} (h : rowOk y = true) : y.length = 12 := by simp [rowOk] at h; exact h.1
theorem row_rd {y : List Int} (h : rowOk y = true) (i : Nat) (hi : i < 12) : 0 ≤ rd y (i : Int) ∧ rd y (i : Int) ≤ 100000000000 := by
  have hl := row_len h
  simp only [rowOk, Bool.and_eq_true] at h
  have hg : y[i]? = some (y[i]'(by omega)) := List.getElem?_eq_getElem (by omega)
  rw [rd_get hg]
  exact allIn_get h.2 hg
def piles : List (List Int) → Int → Int
  | [], m => m
  | y :: ys, m => piles ys (max m (rd y 10))
/-- The first row that doesn't balance, from index i on. -/
def imbal : List (List Int) → Nat → Int → Int → Nat
  | [], i, _, _ => i
  | y :: ys, i, t, m => if rowHolds y = true ∧ rd y 10 = t + (rd y 4 - rd y 8) ∧ rd y 11 = m + (rd y 5 - rd y 9) then imbal ys (i + 1) (rd y 10) (rd y 11) else i
def machOk (a b : Int) : Bool := decide (0 ≤ a ∧ a ≤ 100 ∧ 0 ≤ b ∧ b ≤ 100)
/-- The states of a machine: d shifts, from shift s on; 'now': is it ready? -/
def states (f r key : Int) : Nat → Int → Bool → List Bool
  | 0, _, _ => []
  | d + 1, s, now => now :: states f r key d (s + 1) (if Int.tmod (mix [key, s, 3, 100]) 100 < (if now = true then f else r) then !now else now)
theorem states_length (f r key : Int) : ∀ (d : Nat) (s : Int) (now : Bool), (states f r key d s now).length = d
  | 0, _, _ => rfl
  | d + 1, s, now => by simp [states, states_length]
/-- Tonnes and losses of a bench. -/
def lossWaste : List Int → List Bool → Int → Int → Int × Int
  | v :: vs, b :: bs, l, w => if b = true then lossWaste vs bs l (w + max 0 (-v)) else lossWaste vs bs (l + max 0 v) w
  | _, _, l, w => (l, w)
def dugSum : List Int → List Bool → Int → Int
  | v :: vs, b :: bs, s => dugSum vs bs (if b = true then s + v else s)
  | _, _, s => s
def modelOk (x y z : Int) (t g r : List Int) : Bool := gridOk x y z && decide ((t.length : Int) = x * y * z ∧ (g.length : Int) = x * y * z ∧ (r.length : Int) = x * y * z) && (allIn 0 10000 t && (allIn 0 1000 g && allIn 0 4 r))
theorem sq_bd {d : Int} (h : -1000 ≤ d ∧ d ≤ 1000) : 0 ≤ d * d ∧ d * d ≤ 1000000 := by
  rcases Int.le_total 0 d with h0 | h0
  · exact ⟨Int.mul_nonneg h0 h0, Int.mul_le_mul h.2 h.2 h0 (by omega)⟩
  · rw [← Int.neg_mul_neg]
    exact ⟨Int.mul_nonneg (by omega) (by omega), Int.mul_le_mul (a := -d) (b := -d) (c := 1000) (d := 1000) (by omega) (by omega) (by omega) (by omega)⟩
/-- The square of the distance of a place from the middle of a block's place. -/
def farOf (px py pz x y z : Int) : Int := (x - 10 * px - 5) * (x - 10 * px - 5) + (y - 10 * py - 5) * (y - 10 * py - 5) + (z - 10 * pz - 5) * (z - 10 * pz - 5)
theorem far_nonneg (px py pz x y z : Int) : 0 ≤ farOf px py pz x y z := by
  have h : ∀ d : Int, 0 ≤ d * d := fun d => by
    rcases Int.le_total 0 d with h0 | h0
    · exact Int.mul_nonneg h0 h0
    · rw [← Int.neg_mul_neg]; exact Int.mul_nonneg (by omega) (by omega)
  have a := h (x - 10 * px - 5); have b := h (y - 10 * py - 5); have c := h (z - 10 * pz - 5)
  unfold farOf; omega
theorem far_wrap {px py pz x y z : Int} (hx : 0 ≤ px ∧ px ≤ 10) (hy : 0 ≤ py ∧ py ≤ 10) (hz : 0 ≤ pz ∧ pz ≤ 10) (kx : 0 ≤ x ∧ x ≤ 100) (ky : 0 ≤ y ∧ y ≤ 100) (kz : 0 ≤ z ∧ z ≤ 100) :
    wrap64 ((wrap64 ((wrap64 ((wrap64 ((wrap64 (x - (wrap64 (10 * px)))) - 5)) * (wrap64 ((wrap64 (x - (wrap64 (10 * px)))) - 5)))) + (wrap64 ((wrap64 ((wrap64 (y - (wrap64 (10 * py)))) - 5)) * (wrap64 ((wrap64 (y - (wrap64 (10 * py)))) - 5)))))) + (wrap64 ((wrap64 ((wrap64 (z - (wrap64 (10 * pz)))) - 5)) * (wrap64 ((wrap64 (z - (wrap64 (10 * pz)))) - 5))))) = farOf px py pz x y z := by
  have a := sq_bd (d := x - 10 * px - 5) (by omega)
  have b := sq_bd (d := y - 10 * py - 5) (by omega)
  have c := sq_bd (d := z - 10 * pz - 5) (by omega)
  rw [wrap_id (x := 10 * px) (by omega) (by omega), wrap_id (x := 10 * py) (by omega) (by omega), wrap_id (x := 10 * pz) (by omega) (by omega),
    wrap_id (x := x - 10 * px) (by omega) (by omega), wrap_id (x := y - 10 * py) (by omega) (by omega), wrap_id (x := z - 10 * pz) (by omega) (by omega),
    wrap_id (x := x - 10 * px - 5) (by omega) (by omega), wrap_id (x := y - 10 * py - 5) (by omega) (by omega), wrap_id (x := z - 10 * pz - 5) (by omega) (by omega),
    wrap_id (x := (x - 10 * px - 5) * (x - 10 * px - 5)) (by omega) (by omega), wrap_id (x := (y - 10 * py - 5) * (y - 10 * py - 5)) (by omega) (by omega), wrap_id (x := (z - 10 * pz - 5) * (z - 10 * pz - 5)) (by omega) (by omega),
    wrap_id (x := (x - 10 * px - 5) * (x - 10 * px - 5) + (y - 10 * py - 5) * (y - 10 * py - 5)) (by omega) (by omega), wrap_id (by omega) (by omega)]
  rfl
def near {α : Type} (far : α → Int) : List α → Int → Int → Int → Int
  | [], _, best, _ => best
  | h :: hs, i, best, least => if least < 0 ∨ far h < least then near far hs (i + 1) i (far h) else near far hs (i + 1) best least
def hasBlock (x y z i : Int) : Bool := gridOk x y z && decide (0 ≤ i ∧ i < x * y * z)
theorem place_of {x y z i : Int} (h : hasBlock x y z i = true) : (0 ≤ i % x ∧ i % x < x) ∧ (0 ≤ i / x % y ∧ i / x % y < y) ∧ (0 ≤ i / x / y ∧ i / x / y < z) ∧ 0 ≤ i / x ∧ i / x ≤ 120 := by
  simp only [hasBlock, Bool.and_eq_true, decide_eq_true_eq] at h
  have hb := grid_ok h.1
  have hi := h.2
  have h1 : 0 ≤ i / x := Int.ediv_nonneg (by omega) (by omega)
  have h2 : i / x < y * z := by
    apply Int.ediv_lt_of_lt_mul (by omega)
    rw [Int.mul_comm (y * z) x, ← Int.mul_assoc]; exact hi.2
  have h3 : i / x / y < z := by
    apply Int.ediv_lt_of_lt_mul (by omega)
    rw [Int.mul_comm z y]; exact h2
  have h4 : i / x ≤ i := Int.ediv_le_self _ (by omega)
  exact ⟨⟨Int.emod_nonneg _ (by omega), Int.emod_lt_of_pos _ (by omega)⟩, ⟨Int.emod_nonneg _ (by omega), Int.emod_lt_of_pos _ (by omega)⟩, ⟨Int.ediv_nonneg h1 (by omega), h3⟩, h1, by omega⟩
/-- A fraction in lowest terms, of numbers that are not negative. -/
def low (a b : Int) : Int × Int := (a / (Nat.gcd a.natAbs b.natAbs : Int), b / (Nat.gcd a.natAbs b.natAbs : Int))
theorem low_bd {a b : Int} (ha : 0 ≤ a) (hb : 0 < b) : 1 ≤ (Nat.gcd a.natAbs b.natAbs : Int) ∧ 0 ≤ (low a b).1 ∧ (low a b).1 ≤ a ∧ 1 ≤ (low a b).2 ∧ (low a b).2 ≤ b ∧ a = (low a b).1 * (Nat.gcd a.natAbs b.natAbs : Int) ∧ b = (low a b).2 * (Nat.gcd a.natAbs b.natAbs : Int) := by
  have hg : 0 < Nat.gcd a.natAbs b.natAbs := Nat.gcd_pos_of_pos_right _ (by omega)
  have d1 : (Nat.gcd a.natAbs b.natAbs : Int) ∣ a := Int.natAbs_dvd_natAbs.1 (by simpa using Nat.gcd_dvd_left a.natAbs b.natAbs)
  have d2 : (Nat.gcd a.natAbs b.natAbs : Int) ∣ b := Int.natAbs_dvd_natAbs.1 (by simpa using Nat.gcd_dvd_right a.natAbs b.natAbs)
  have e1 := Int.ediv_mul_cancel d1
  have e2 := Int.ediv_mul_cancel d2
  have h1 : 0 ≤ a / (Nat.gcd a.natAbs b.natAbs : Int) := Int.ediv_nonneg ha (by omega)
  have h2 : a / (Nat.gcd a.natAbs b.natAbs : Int) ≤ a := Int.ediv_le_self _ ha
  have h3 : 0 ≤ b / (Nat.gcd a.natAbs b.natAbs : Int) := Int.ediv_nonneg (by omega) (by omega)
  have h4 : b / (Nat.gcd a.natAbs b.natAbs : Int) ≤ b := Int.ediv_le_self _ (by omega)
  refine ⟨by omega, h1, h2, ?_, h4, e1.symm, e2.symm⟩
  by_cases h5 : b / (Nat.gcd a.natAbs b.natAbs : Int) = 0
  · rw [h5] at e2; omega
  · show 1 ≤ b / (Nat.gcd a.natAbs b.natAbs : Int); omega
theorem low_scale {a b c : Int} (ha : 0 ≤ a) (hb : 0 < b) (hc : 0 < c) : low (a * c) (b * c) = low a b := by
  have hg : 0 < Nat.gcd a.natAbs b.natAbs := Nat.gcd_pos_of_pos_right _ (by omega)
  have e : (Nat.gcd (a * c).natAbs (b * c).natAbs : Int) = (Nat.gcd a.natAbs b.natAbs : Int) * c := by
    rw [Int.natAbs_mul, Int.natAbs_mul, Nat.gcd_mul_right, Int.natCast_mul]; congr 1; omega
  simp only [low, e]
  rw [Int.mul_ediv_mul_of_pos_left _ _ hc, Int.mul_ediv_mul_of_pos_left _ _ hc]
/-- Ready and down, behind one shift more. -/
def turn (f r : Int) (p : Int × Int) : Int × Int := (p.1 * (100 - f) + p.2 * r, p.1 * f + p.2 * (100 - r))
def turns (f r : Int) : Nat → Int × Int → Int × Int
  | 0, p => p
  | n + 1, p => turns f r n (turn f r p)
def begin_ (c : Bool) : Int × Int := if c = true then (1, 0) else (0, 1)
theorem turn_bd {f r : Int} {p : Int × Int} (hm : machOk f r = true) (h1 : 0 ≤ p.1) (h2 : 0 ≤ p.2) :
    (0 ≤ p.1 * (100 - f) ∧ p.1 * (100 - f) ≤ p.1 * 100) ∧ (0 ≤ p.2 * r ∧ p.2 * r ≤ p.2 * 100) ∧ (0 ≤ p.1 * f ∧ p.1 * f ≤ p.1 * 100) ∧ (0 ≤ p.2 * (100 - r) ∧ p.2 * (100 - r) ≤ p.2 * 100) ∧ p.1 * f = p.1 * 100 - p.1 * (100 - f) ∧ p.2 * (100 - r) = p.2 * 100 - p.2 * r := by
  simp only [machOk, decide_eq_true_eq] at hm
  have m : ∀ {a b : Int}, 0 ≤ a → 0 ≤ b → b ≤ 100 → 0 ≤ a * b ∧ a * b ≤ a * 100 := fun ha hb hc => ⟨Int.mul_nonneg ha hb, Int.mul_le_mul_of_nonneg_left hc ha⟩
  refine ⟨m h1 (by omega) (by omega), m h2 (by omega) (by omega), m h1 (by omega) (by omega), m h2 (by omega) (by omega), ?_, ?_⟩
  · rw [Int.mul_sub]; omega
  · rw [Int.mul_sub]
theorem turn_sum {f r : Int} {p : Int × Int} (hm : machOk f r = true) (h1 : 0 ≤ p.1) (h2 : 0 ≤ p.2) : 0 ≤ (turn f r p).1 ∧ 0 ≤ (turn f r p).2 ∧ (turn f r p).1 + (turn f r p).2 = (p.1 + p.2) * 100 := by
  have := turn_bd hm h1 h2
  simp only [turn]; omega
theorem turns_sum {f r : Int} (hm : machOk f r = true) : ∀ (n : Nat) (p : Int × Int), 0 ≤ p.1 → 0 ≤ p.2 → 0 ≤ (turns f r n p).1 ∧ 0 ≤ (turns f r n p).2 ∧ (turns f r n p).1 + (turns f r n p).2 = (p.1 + p.2) * 100 ^ n
  | 0, p, h1, h2 => by simp [turns, h1, h2]
  | n + 1, p, h1, h2 => by
    have a := turn_sum hm h1 h2
    have b := turns_sum hm n (turn f r p) a.1 a.2.1
    simp only [turns]
    refine ⟨b.1, b.2.1, ?_⟩
    rw [b.2.2, a.2.2, Int.pow_succ, Int.mul_assoc, Int.mul_comm 100 (100 ^ n)]
theorem pow_ge (n : Nat) : 1 ≤ (100 : Int) ^ n := by have := Int.pow_pos (n := 100) (m := n) (by omega); omega
/-- What the shifts tell: the first number of each. -/
def tells (f r : Int) : Nat → Int × Int → List Int
  | 0, _ => []
  | n + 1, p => (turn f r p).1 :: tells f r n (turn f r p)
theorem tells_length (f r : Int) : ∀ (n : Nat) (p : Int × Int), (tells f r n p).length = n
  | 0, _ => rfl
  | n + 1, p => by simp [tells, tells_length f r n]
theorem tells_get (f r : Int) : ∀ (n : Nat) (p : Int × Int) (s : Nat), s < n → (tells f r n p)[s]? = some (turns f r (s + 1) p).1
  | 0, _, s, h => by omega
  | n + 1, p, 0, h => by simp [tells, turns]
  | n + 1, p, s + 1, h => by simp only [tells, List.getElem?_cons_succ]; rw [tells_get f r n (turn f r p) s (by omega)]; rfl
/-- The sum of the first j numbers, each brought to 100 to the power e. -/
def meanSum (C : Nat → Int) (e : Nat) : Nat → Int
  | 0 => 0
  | j + 1 => meanSum C e j + C j * 100 ^ (e - j)
theorem meanSum_bd {C : Nat → Int} {e : Nat} (hC : ∀ s, s ≤ 5 → 0 ≤ C s ∧ C s ≤ 100 ^ s) : ∀ j, j ≤ e + 1 → j ≤ 5 → (0 ≤ meanSum C e j ∧ meanSum C e j ≤ j * 100 ^ e) ∧ (j ≤ e → 0 ≤ C j * 100 ^ (e - j) ∧ C j * 100 ^ (e - j) ≤ 100 ^ e)
  | 0, h, h5 => ⟨by simp [meanSum], fun _ => by
      have c := hC 0 (by omega)
      refine ⟨Int.mul_nonneg c.1 (by have := pow_ge (e - 0); omega), ?_⟩
      have h : C 0 * 100 ^ (e - 0) ≤ 1 * 100 ^ (e - 0) := Int.mul_le_mul_of_nonneg_right (by simpa using c.2) (by have := pow_ge (e - 0); omega)
      simpa using h⟩
  | j + 1, h, h5 => by
    have a := meanSum_bd (e := e) hC j (by omega) (by omega)
    have a2 := a.2 (by omega)
    refine ⟨?_, fun hj => ?_⟩
    · simp only [meanSum]
      have e1 : ((j + 1 : Nat) : Int) * 100 ^ e = (j : Int) * 100 ^ e + 100 ^ e := by rw [Int.natCast_succ, Int.add_mul, Int.one_mul]
      omega
    · have c := hC (j + 1) h5
      have hp := pow_ge (e - (j + 1))
      refine ⟨Int.mul_nonneg c.1 (by omega), ?_⟩
      have q : C (j + 1) * 100 ^ (e - (j + 1)) ≤ 100 ^ (j + 1) * 100 ^ (e - (j + 1)) := Int.mul_le_mul_of_nonneg_right c.2 (by omega)
      rw [← Int.pow_add (100 : Int) (j + 1) (e - (j + 1)), show j + 1 + (e - (j + 1)) = e by omega] at q
      exact q
theorem meanSum_scale (C : Nat → Int) (e d : Nat) : ∀ j, j ≤ e + 1 → meanSum C (e + d) j = meanSum C e j * 100 ^ d
  | 0, h => by simp [meanSum]
  | j + 1, h => by
    simp only [meanSum]
    rw [meanSum_scale C e d j (by omega), Int.add_mul, Int.mul_assoc (C j), ← Int.pow_add, show e + d - j = e - j + d by omega]
theorem pow_div (j : Nat) (h : j ≤ 4) : (100000000 : Int) / 100 ^ j = 100 ^ (4 - j) := by
  rcases (by omega : j = 0 ∨ j = 1 ∨ j = 2 ∨ j = 3 ∨ j = 4) with rfl | rfl | rfl | rfl | rfl <;> decide
/-- A row of cells and rows of them, as bytes: the last row first. -/
def rowBytes (bs : List Bool) : List Int := bs.map fun b => if b = true then 35 else 46
def digBytes (d : List Bool) (w : Nat) : Nat → List Int
  | 0 => []
  | y + 1 => rowBytes ((d.drop (y * w)).take w) ++ 10 :: digBytes d w y
theorem str_snoc (xs : List Int) (x : Int) (b : UInt8) (h : UInt8.ofNat x.toNat = b) : strOfNums xs ++ (⟨#[b]⟩ : ByteArray) = strOfNums (xs ++ [x]) := by
  apply ByteArray.ext
  simp [strOfNums, ByteArray.data_append, h]
theorem grid_row {w y : Nat} {n : Nat} (hw : 1 ≤ w ∧ w ≤ 8) (hy : y < 6) (hn : (y + 1) * w ≤ n) (h48 : n ≤ 48) : y * w ≤ 48 ∧ (y + 1) * w = y * w + w ∧ y * w + w ≤ n := by
  rw [Nat.add_mul, Nat.one_mul] at hn ⊢; omega
end Go.Proofs.Ytoaglacdklmafaa.Model
namespace Go.Proofs.Ytoaglacdklmafaa.PureFnExactFleetReady
open Go.RowKit Go.Proofs.Ytoaglacdklmafaa.PFnExactFleetReady Go.Proofs.YtoaglacdklmafaaW.PrintWords Go.Proofs.YtoaglacdklmafaaW.PrintLast Go.Proofs.YtoaglacdklmafaaW.PrintMore Go.Proofs.Ytoaglacdklmafaa.Kit Go.Proofs.Ytoaglacdklmafaa.Model
theorem laws_eqIntS_l0 (l : List Int) (hn : l.length ≤ 9223372036854775807) : ∀ (ys : List Int) (i : Nat), l.drop i = ys → Ev (fun k => laws_eqIntS.l0 k l l i) true
  | [], i, h => Ev.next0 fun k => by
      have h0 := drop_nil h
      simp only [laws_eqIntS.l0]
      rw [if_neg (by omega)]
  | y :: ys, i, h => by
      obtain ⟨h1, h2, h3⟩ := drop_cons h
      refine Ev.next1 (laws_eqIntS_l0 l hn ys (i + 1) h3) fun k hk => ?_
      have e := rd_drop h
      simp only [laws_eqIntS.l0, e]
      rw [if_pos (by omega), if_pos (by omega), if_pos (by omega), if_pos (by simp), wrap_succ h1 hn]
      exact hk
theorem laws_eqIntS_ev (l : List Int) (hn : l.length ≤ 9223372036854775807) : Ev (fun k => laws_eqIntS.f k l l) true :=
  Ev.of1 (laws_eqIntS_l0 l hn l 0 rfl) fun k hk => by
    simp only [laws_eqIntS.f]
    rw [if_pos (by simp)]
    exact hk
theorem laws_markIntS_l0 (n : Nat) (c : Int) (hc : 0 ≤ c) (hb : c + n ≤ 9223372036854775807) : ∀ (d i : Nat) (x : List Int), i + d = n → x.length = n → x.take i = (markI n c).take i → Ev (fun k => laws_markIntS.l0 k x (c + (i : Int)) i) (c + (n : Int), markI n c)
  | 0, i, x, hd, hl, ht => Ev.next0 fun k => by
      simp only [laws_markIntS.l0]
      rw [if_neg (by omega), copy_end (by rw [hl, markI_length]) ht (by rw [markI_length]; omega), show i = n by omega]
  | d + 1, i, x, hd, hl, ht => by
      obtain ⟨c1, c2⟩ := copy_step (markI_get n c i (by omega)) (by rw [hl, markI_length]) ht
      refine Ev.next1 (laws_markIntS_l0 n c hc hb d (i + 1) _ (by omega) (by rw [c1, markI_length]) c2) fun k hk => ?_
      simp only [laws_markIntS.l0]
      rw [if_pos (by omega), if_pos (by omega), wrap_succ (n := n) (by omega) (by omega), wrap_id (by omega) (by omega), toNat_cast, show c + (i : Int) + 1 = c + ((i + 1 : Nat) : Int) by push_cast; omega]
      exact hk
theorem laws_markIntS_ev (x : List Int) (c : Int) (hc : 0 ≤ c) (hb : c + x.length ≤ 9223372036854775807) : Ev (fun k => laws_markIntS.f k x c) (c + (x.length : Int), markI x.length c) :=
  Ev.of1 (laws_markIntS_l0 x.length c hc hb x.length 0 x (by omega) rfl rfl) fun k hk => by
    simp only [laws_markIntS.f]
    rw [show c + ((0 : Nat) : Int) = c by omega] at hk
    exact hk
theorem laws_heldIntS_l0 (n : Nat) (c : Int) (hc : 0 ≤ c) (hb : c + n ≤ 9223372036854775807) : ∀ (d i : Nat), i + d = n → Ev (fun k => laws_heldIntS.l0 k (markI n c) (c + (i : Int)) i) (c + (n : Int))
  | 0, i, hd => Ev.next0 fun k => by
      simp only [laws_heldIntS.l0]
      rw [if_neg (by rw [markI_length]; omega), show i = n by omega]
  | d + 1, i, hd => by
      refine Ev.next1 (laws_heldIntS_l0 n c hc hb d (i + 1) (by omega)) fun k hk => ?_
      have e := rd_get (markI_get n c i (by omega))
      simp only [laws_heldIntS.l0, e]
      rw [if_pos (by rw [markI_length]; omega), if_pos (by omega), if_pos (by simp), wrap_succ (n := n) (by omega) (by omega), wrap_id (by omega) (by omega), show c + (i : Int) + 1 = c + ((i + 1 : Nat) : Int) by push_cast; omega]
      exact hk
theorem laws_heldIntS_ev (n : Nat) (c : Int) (hc : 0 ≤ c) (hb : c + n ≤ 9223372036854775807) : Ev (fun k => laws_heldIntS.f k (markI n c) c) (c + (n : Int)) :=
  Ev.of1 (laws_heldIntS_l0 n c hc hb n 0 (by omega)) fun k hk => by
    simp only [laws_heldIntS.f]
    rw [show c + ((0 : Nat) : Int) = c by omega] at hk
    exact hk
theorem laws_szMachineS_eq (l : List S107) (a : Int) (h0 : 0 ≤ a) (ha : a ≤ 1048576) (hn : l.length ≤ 9223372036854775807) : laws_szMachineS.f l a = some (if a < l.length then -1 else a - l.length) := by
  simp only [laws_szMachineS.f]
  rw [wrap_id (by omega) (by omega)]
  split
  · rw [if_pos (by omega)]
  · rw [if_neg (by omega)]
theorem spec_l1In_eq (a lo hi : Int) : spec_l1In.f a lo hi = some (decide (lo ≤ a ∧ a ≤ hi)) := by
  unfold spec_l1In.f
  split
  · congr 1; simp; omega
  · congr 1; simp; omega
theorem spec_brGood_eq (a b : Int) (c : Bool) : spec_brGood.f a b c = some (machOk a b) := by
  simp only [spec_brGood.f, spec_l1In_eq, Option.bind_some, decide_eq_true_eq, machOk]
  by_cases h : 0 ≤ a ∧ a ≤ 100
  · rw [if_pos h]; congr 1; rw [decide_eq_decide]; omega
  · rw [if_neg h]; congr 1; symm; simp; omega
theorem spec_l1Own_eq (l : List Int) (h : l.length < 17592186044416) : spec_l1Own.f l = some l := by
  simp only [spec_l1Own.f, Option.bind_some, List.length_nil, List.nil_append]
  rw [if_pos (by omega)]
theorem spec_brMix_l0 (l : List Int) (hn : l.length ≤ 9223372036854775807) : ∀ (ys : List Int) (i : Nat) (a : Int), l.drop i = ys → Ev (fun k => spec_brMix.l0 k a l (l.length : Int) i) (ys.foldl mixStep a)
  | [], i, a, h => Ev.next0 fun k => by
      have h0 := drop_nil h
      simp only [spec_brMix.l0, List.foldl]
      rw [if_neg (by omega)]
  | y :: ys, i, a, h => by
      obtain ⟨h1, h2, h3⟩ := drop_cons h
      refine Ev.next1 (spec_brMix_l0 l hn ys (i + 1) (mixStep a y) h3) fun k hk => ?_
      have e := rd_drop h
      simp only [spec_brMix.l0, e, List.foldl]
      rw [if_pos (by omega), if_pos (by omega), if_pos (by omega), wrap_succ h1 hn]
      exact hk
theorem spec_brMix_ev (l : List Int) (hn : l.length ≤ 1048576) : Ev (fun k => spec_brMix.f k l) (mix l) :=
  Ev.of1 (spec_brMix_l0 (l ++ [5, 2]) (by simp; omega) (l ++ [5, 2]) 0 (wrap64 (6007 + (l.length : Int))) rfl) fun k hk => by
    simp only [spec_brMix.f, spec_l1Own_eq l (by omega), Option.bind_some]
    rw [if_pos (by simp; omega)]
    exact hk
theorem spec_brBelow_ev (l : List Int) (n : Int) (hn : l.length ≤ 1048575) (h0 : n ≠ 0) : Ev (fun k => spec_brBelow.f k l n) (Int.tmod (mix (l ++ [n])) n) :=
  Ev.of1 (spec_brMix_ev (l ++ [n]) (by simp; omega)) fun k hk => by
    simp only [spec_brBelow.f, spec_l1Own_eq l (by omega), Option.bind_some]
    rw [if_pos (by omega), hk, Option.bind_some, if_neg h0]
theorem spec_brStates_l0 (f r key n : Int) (c : Bool) (hn : n ≤ 60) : ∀ (d : Nat) (s : Int) (a : List Bool) (now : Bool), 0 ≤ s → s + d = n → (a.length : Int) = s → Ev (fun k => spec_brStates.l0 k key n a now s f r c) (a ++ states f r key d s now)
  | 0, s, a, now, h0, hd, ha => Ev.next0 fun k => by
      simp only [spec_brStates.l0, states, List.append_nil]
      rw [if_neg (by omega)]
  | d + 1, s, a, now, h0, hd, ha => by
      have hb := spec_brBelow_ev [key, s, 3] 100 (by simp) (by omega)
      have e : ([key, s, 3] : List Int) ++ [100] = [key, s, 3, 100] := rfl
      rw [e] at hb
      refine Ev.next2 hb (spec_brStates_l0 f r key n c hn d (s + 1) (a ++ [now]) (if Int.tmod (mix [key, s, 3, 100]) 100 < (if now = true then f else r) then !now else now) (by omega) (by omega) (by simp; omega)) fun k h1 h2 => ?_
      simp only [spec_brStates.l0, Option.bind_some, h1, states]
      rw [if_pos (by omega), if_pos (by omega), wrap_id (by omega) (by omega)]
      rw [List.append_assoc] at h2
      cases now with
      | true =>
        simp only [if_true] at h2 ⊢
        by_cases hq : Int.tmod (mix [key, s, 3, 100]) 100 < f
        · simp only [if_pos hq] at h2 ⊢; exact h2
        · simp only [if_neg hq] at h2 ⊢; exact h2
      | false =>
        simp only [Bool.false_eq_true, if_false] at h2 ⊢
        by_cases hq : Int.tmod (mix [key, s, 3, 100]) 100 < r
        · simp only [if_pos hq] at h2 ⊢; exact h2
        · simp only [if_neg hq] at h2 ⊢; exact h2
theorem spec_brStates_ev (f r key n : Int) (c : Bool) (h0 : 0 ≤ n) (hn : n ≤ 60) : Ev (fun k => spec_brStates.f k f r c key n) (states f r key n.toNat 0 c) :=
  Ev.of1 (spec_brStates_l0 f r key n c hn n.toNat 0 [] c (by omega) (by omega) rfl) fun k hk => by simp only [spec_brStates.f]; exact hk
def addB : List Int → List Bool → List Int
  | x :: xs, c :: cs => (if c = true then x + 1 else x) :: addB xs cs
  | _, _ => []
theorem addB_length : ∀ (xs : List Int) (cs : List Bool), xs.length = cs.length → (addB xs cs).length = xs.length
  | [], [], _ => rfl
  | [], _ :: _, h => by simp at h
  | _ :: _, [], h => by simp at h
  | x :: xs, c :: cs, h => by simp [addB, addB_length xs cs (by simpa using h)]
theorem addB_mem (n : Int) : ∀ (xs : List Int) (cs : List Bool), (∀ v ∈ xs, 0 ≤ v ∧ v ≤ n) → ∀ v ∈ addB xs cs, 0 ≤ v ∧ v ≤ n + 1
  | [], _, _, v, hv => by simp [addB] at hv
  | _ :: _, [], _, v, hv => by simp [addB] at hv
  | x :: xs, c :: cs, h, v, hv => by
    have h0 := h x (by simp)
    simp only [addB] at hv
    rcases List.mem_cons.1 hv with rfl | hv
    · split <;> omega
    · exact addB_mem n xs cs (fun v h' => h v (by simp [h'])) v hv
def machsOk : List S103 → Bool
  | [] => true
  | m :: ms => machOk m.f0 m.f1 && machsOk ms
/-- How many of the machines are ready, shift for shift. -/
def fleet (n : Nat) : List S103 → Int → List Int → List Int
  | [], _, acc => acc
  | m :: ms, key, acc => fleet n ms (key + 1) (addB acc (states m.f0 m.f1 key n 0 m.f2))
theorem fleet_length (n : Nat) : ∀ (ms : List S103) (key : Int) (acc : List Int), acc.length = n → (fleet n ms key acc).length = n
  | [], _, _, h => h
  | m :: ms, key, acc, h => fleet_length n ms (key + 1) _ (by rw [addB_length _ _ (by rw [states_length]; exact h)]; exact h)
def fleetOf (l : List S103) (a1 a2 : Int) : List Int × Bool := if l.length ≤ 8 ∧ (0 ≤ a1 ∧ a1 ≤ 999999000) ∧ (0 ≤ a2 ∧ a2 ≤ 60) ∧ machsOk l = true then (fleet a2.toNat l a1 (List.replicate a2.toNat 0), true) else ([], false)
theorem fleetOf_len (l : List S103) (a1 a2 : Int) : (fleetOf l a1 a2).1.length ≤ 60 := by
  unfold fleetOf
  split
  · rw [fleet_length _ _ _ _ (by simp)]; omega
  · simp
theorem spec_FleetReady_l1 (a1 a2 : Int) (l : List S103) (i : Int) (bs : List Bool) (hn : bs.length ≤ 1048576) (r : List Int × Bool) : ∀ (cs : List Bool) (pre xs : List Int) (j : Nat), pre.length = j → xs.length = cs.length → bs.drop j = cs → (∀ v ∈ xs, 0 ≤ v ∧ v ≤ 1000) →
    Ev (fun k => spec_FleetReady.l0 k a1 a2 (pre ++ addB xs cs) l (l.length : Int) (wrap64 (i + 1))) r → Ev (fun k => spec_FleetReady.l1 k a1 a2 (pre ++ xs) l (l.length : Int) i bs (bs.length : Int) j) r
  | [], pre, xs, j, hp, hx, hj, hv, hr => by
      have h0 := drop_nil hj
      obtain rfl : xs = [] := List.eq_nil_of_length_eq_zero (by simpa using hx)
      refine Ev.next1 hr fun k hk => ?_
      simp only [spec_FleetReady.l1]
      rw [if_neg (by omega)]; exact hk
  | c :: cs, pre, xs, j, hp, hx, hj, hv, hr => by
      obtain ⟨h1, h2, h3⟩ := drop_cons hj
      have e := rdOf_drop (d := false) hj
      cases xs with
      | nil => simp at hx
      | cons x xs =>
        have hx0 := hv x (by simp)
        have hv' : ∀ v ∈ xs, 0 ≤ v ∧ v ≤ 1000 := fun v h => hv v (by simp [h])
        have hx' : xs.length = cs.length := by simpa using hx
        cases c with
        | true =>
          have hr' : Ev (fun k => spec_FleetReady.l0 k a1 a2 ((pre ++ [x + 1]) ++ addB xs cs) l (l.length : Int) (wrap64 (i + 1))) r := by
            rw [List.append_assoc]; exact hr
          refine Ev.next1 (spec_FleetReady_l1 a1 a2 l i bs hn r cs (pre ++ [x + 1]) xs (j + 1) (by simp [hp]) hx' h3 hv' hr') fun k hk => ?_
          have e1 : rd (pre ++ x :: xs) (j : Int) = x := rd_get (by rw [← hp, List.getElem?_append_right (Nat.le_refl _), Nat.sub_self]; rfl)
          have e2 : (pre ++ x :: xs).set j (x + 1) = (pre ++ [x + 1]) ++ xs := by
            rw [List.set_append_right _ _ (by omega), hp, Nat.sub_self, List.append_assoc]; rfl
          simp only [spec_FleetReady.l1, e, e1, if_true]
          rw [if_pos (by omega), if_pos (by omega), if_pos (by omega), if_pos (by simp; omega), wrap_succ h1 (by omega), wrap_id (x := x + 1) (by omega) (by omega), toNat_cast, e2]
          exact hk
        | false =>
          have hr' : Ev (fun k => spec_FleetReady.l0 k a1 a2 ((pre ++ [x]) ++ addB xs cs) l (l.length : Int) (wrap64 (i + 1))) r := by
            rw [List.append_assoc]; exact hr
          refine Ev.next1 (spec_FleetReady_l1 a1 a2 l i bs hn r cs (pre ++ [x]) xs (j + 1) (by simp [hp]) hx' h3 hv' hr') fun k hk => ?_
          simp only [spec_FleetReady.l1, e, Bool.false_eq_true, if_false]
          rw [if_pos (by omega), if_pos (by omega), if_pos (by omega), wrap_succ h1 (by omega)]
          rw [List.append_assoc] at hk; exact hk
theorem spec_FleetReady_l0 (a1 a2 : Int) (l : List S103) (hl : l.length ≤ 8) (h1 : 0 ≤ a1 ∧ a1 ≤ 999999000) (h2 : 0 ≤ a2 ∧ a2 ≤ 60) : ∀ (ys : List S103) (i : Nat) (acc : List Int), l.drop i = ys → acc.length = a2.toNat → (∀ v ∈ acc, 0 ≤ v ∧ v ≤ (i : Int)) →
    Ev (fun k => spec_FleetReady.l0 k a1 a2 acc l (l.length : Int) i) (if machsOk ys = true then (fleet a2.toNat ys (a1 + i) acc, true) else ([], false))
  | [], i, acc, h, ha, hv => Ev.next0 fun k => by
      have h0 := drop_nil h
      simp only [spec_FleetReady.l0, machsOk, fleet, if_true]
      rw [if_neg (by omega)]
  | y :: ys, i, acc, h, ha, hv => by
      obtain ⟨d1, d2, d3⟩ := drop_cons h
      have e : rd_T103 l i = y := getD_drop h
      by_cases hy : machOk y.f0 y.f1 = true
      · have hs := spec_brStates_ev y.f0 y.f1 (a1 + i) a2 y.f2 h2.1 h2.2
        have hsl := states_length y.f0 y.f1 (a1 + i) a2.toNat 0 y.f2
        have hq := addB_length acc (states y.f0 y.f1 (a1 + i) a2.toNat 0 y.f2) (by omega)
        have i0 := spec_FleetReady_l0 a1 a2 l hl h1 h2 ys (i + 1) (addB acc (states y.f0 y.f1 (a1 + i) a2.toNat 0 y.f2)) d3 (by omega) (fun v hm => by have := addB_mem (i : Int) _ _ hv v hm; omega)
        rw [show a1 + (((i + 1 : Nat)) : Int) = a1 + (i : Int) + 1 by omega, ← wrap_succ d1 (by omega)] at i0
        have i1 := spec_FleetReady_l1 a1 a2 l i (states y.f0 y.f1 (a1 + i) a2.toNat 0 y.f2) (by omega) _ (states y.f0 y.f1 (a1 + i) a2.toNat 0 y.f2) [] acc 0 rfl (by omega) rfl (fun v hm => by have := hv v hm; omega) i0
        refine Ev.next2 hs i1 fun k h3 h4 => ?_
        simp only [spec_FleetReady.l0, e, spec_brGood_eq, Option.bind_some]
        rw [if_pos (by omega), if_pos (by omega), if_pos (by omega), if_pos hy, wrap_id (x := a1 + (i : Int)) (by omega) (by omega), h3, Option.bind_some]
        simp only [machsOk, hy, Bool.true_and, fleet]
        exact h4
      · refine Ev.next0 fun k => ?_
        simp only [spec_FleetReady.l0, e, spec_brGood_eq, Option.bind_some]
        rw [if_pos (by omega), if_pos (by omega), if_pos (by omega), if_neg hy]
        simp [machsOk, hy]
theorem spec_FleetReady_no (l : List S103) (a1 a2 : Int) : Ev (fun k => spec_FleetReady.j0 k l a1 a2 true) ([], false) := Ev.next0 fun k => by simp [spec_FleetReady.j0]
theorem spec_FleetReady_ev (l : List S103) (a1 a2 : Int) : Ev (fun k => spec_FleetReady.f k l a1 a2) (fleetOf l a1 a2) := by
  by_cases h : l.length ≤ 8 ∧ (0 ≤ a1 ∧ a1 ≤ 999999000) ∧ (0 ≤ a2 ∧ a2 ≤ 60)
  · have i0 := spec_FleetReady_l0 a1 a2 l h.1 h.2.1 h.2.2 l 0 (List.replicate a2.toNat 0) rfl (by simp) (fun v hv => by have := List.eq_of_mem_replicate hv; omega)
    have i1 : Ev (fun k => spec_FleetReady.j0 k l a1 a2 false) (fleetOf l a1 a2) := Ev.next1 i0 fun k hk => by
      simp only [spec_FleetReady.j0, Bool.false_eq_true, if_false]
      rw [if_pos h.2.2.1, if_pos (by omega)]
      rw [show a1 + ((0 : Nat) : Int) = a1 by omega] at hk
      refine hk.trans ?_
      unfold fleetOf
      by_cases hm : machsOk l = true
      · rw [if_pos hm, if_pos ⟨h.1, h.2.1, h.2.2, hm⟩]
      · rw [if_neg hm, if_neg (fun q => hm q.2.2.2)]
    refine Ev.of1 i1 fun k hk => ?_
    simp only [spec_FleetReady.f, spec_l1In_eq, Option.bind_some]
    rw [if_neg (by omega), if_pos (by simpa using h.2.1), show decide (0 ≤ a2 ∧ a2 ≤ 60) = true by simpa using h.2.2]
    exact hk
  · have hf : fleetOf l a1 a2 = ([], false) := by unfold fleetOf; rw [if_neg (fun q => h ⟨q.1, q.2.1, q.2.2.1⟩)]
    refine Ev.of1 (spec_FleetReady_no l a1 a2) fun k hk => ?_
    simp only [spec_FleetReady.f, spec_l1In_eq, Option.bind_some]
    rw [hf]
    by_cases g1 : l.length ≤ 8
    · rw [if_neg (by omega)]
      by_cases g2 : 0 ≤ a1 ∧ a1 ≤ 999999000
      · rw [if_pos (by simpa using g2), show decide (0 ≤ a2 ∧ a2 ≤ 60) = false by simp; intro g3; exact Int.lt_of_not_ge fun g4 => h ⟨g1, g2, g3, g4⟩]
        exact hk
      · rw [if_neg (by simpa using g2)]; exact hk
    · rw [if_pos (by omega)]; exact hk
def toMachine (y : S107) : S103 := ⟨y.f0, y.f1, y.f2⟩
theorem laws_toMachineS_l0 (l : List S107) (hn : l.length ≤ 9223372036854775807) : ∀ (ys : List S107) (i : Nat) (x : List S103), l.drop i = ys → x.length = (l.map toMachine).length → x.take i = (l.map toMachine).take i → Ev (fun k => laws_toMachineS.l0 k l x i) (l.map toMachine)
  | [], i, x, h, hl, ht => Ev.next0 fun k => by
      have h0 := drop_nil h
      have h1 : (l.map toMachine).length = l.length := by simp
      simp only [laws_toMachineS.l0]
      rw [if_neg (by omega), copy_end hl ht (by omega)]
  | y :: ys, i, x, h, hl, ht => by
      obtain ⟨h1, h2, h3⟩ := drop_cons h
      have hm : (l.map toMachine).length = l.length := by simp
      have hg : (l.map toMachine)[i]? = some (toMachine y) := by simp [h2]
      obtain ⟨c1, c2⟩ := copy_step hg hl ht
      refine Ev.next1 (laws_toMachineS_l0 l hn ys (i + 1) (x.set i (toMachine y)) h3 c1 c2) fun k hk => ?_
      have e : rd_T107 l i = y := getD_drop h
      simp only [laws_toMachineS.l0, e, laws_toMachine.f, Option.bind_some]
      rw [if_pos (by omega), if_pos (by omega), if_pos (by omega), wrap_succ h1 hn, toNat_cast]
      exact hk
theorem laws_toMachineS_ev (l : List S107) (hn : l.length ≤ 1048576) : Ev (fun k => laws_toMachineS.f k l) (l.map toMachine) :=
  Ev.of1 (laws_toMachineS_l0 l (by omega) l 0 (List.replicate ((l.length : Int)).toNat z103) rfl (by simp) rfl) fun k hk => by
    simp only [laws_toMachineS.f]
    rw [if_pos (by omega), if_pos (by omega)]
    exact hk
theorem impl_areShifts_eq (a : Int) : impl_areShifts.f a = some (decide (0 ≤ a ∧ a ≤ 60)) := by
  simp only [impl_areShifts.f]
  split
  · congr 1; rw [decide_eq_decide]; omega
  · congr 1; symm; simp; omega
theorem impl_IsMachine_eq (a b : Int) (c : Bool) : impl_IsMachine.f a b c = some (machOk a b) := by
  simp only [impl_IsMachine.f, machOk]
  repeat' split
  all_goals first | (congr 1; rw [decide_eq_decide]; omega) | (congr 1; symm; simp; omega)
theorem impl_mixOf_l0 (l : List Int) (hn : l.length ≤ 9223372036854775807) : ∀ (ys : List Int) (i : Nat) (a : Int), l.drop i = ys → Ev (fun k => impl_mixOf.l0 k a l (l.length : Int) i) (ys.foldl mixStep a)
  | [], i, a, h => Ev.next0 fun k => by
      have h0 := drop_nil h
      simp only [impl_mixOf.l0, List.foldl]
      rw [if_neg (by omega)]
  | y :: ys, i, a, h => by
      obtain ⟨h1, h2, h3⟩ := drop_cons h
      refine Ev.next1 (impl_mixOf_l0 l hn ys (i + 1) (mixStep a y) h3) fun k hk => ?_
      have e := rd_drop h
      simp only [impl_mixOf.l0, e, List.foldl]
      rw [if_pos (by omega), if_pos (by omega), if_pos (by omega), wrap_succ h1 hn]
      exact hk
theorem impl_mixOf_ev (l : List Int) (hn : l.length ≤ 1048576) : Ev (fun k => impl_mixOf.f k l) (mix l) :=
  Ev.of1 (impl_mixOf_l0 (l ++ [5, 2]) (by simp; omega) (l ++ [5, 2]) 0 (wrap64 (6007 + (l.length : Int))) rfl) fun k hk => by
    simp only [impl_mixOf.f, Option.bind_some, List.nil_append, List.length_nil]
    rw [if_pos (by omega), if_pos (by simp; omega)]
    exact hk
theorem impl_numberFor_ev (l : List Int) (n : Int) (hn : l.length ≤ 1048575) (h0 : n ≠ 0) : Ev (fun k => impl_numberFor.f k n l) (Int.tmod (mix (l ++ [n])) n) :=
  Ev.of1 (impl_mixOf_ev (l ++ [n]) (by simp; omega)) fun k hk => by
    simp only [impl_numberFor.f, Option.bind_some, List.nil_append, List.length_nil]
    rw [if_pos (by omega), if_pos (by omega), hk, Option.bind_some, if_neg h0]
theorem impl_statesOf_l0 (f r key n : Int) (c : Bool) (hn : n ≤ 60) : ∀ (d : Nat) (s : Int) (a : List Bool) (now : Bool), 0 ≤ s → s + d = n → (a.length : Int) = s → Ev (fun k => impl_statesOf.l0 k key n a now s f r c) (a ++ states f r key d s now)
  | 0, s, a, now, h0, hd, ha => Ev.next0 fun k => by
      simp only [impl_statesOf.l0, states, List.append_nil]
      rw [if_neg (by omega)]
  | d + 1, s, a, now, h0, hd, ha => by
      have hb := impl_numberFor_ev [key, s, 3] 100 (by simp) (by omega)
      have e : ([key, s, 3] : List Int) ++ [100] = [key, s, 3, 100] := rfl
      rw [e] at hb
      refine Ev.next2 hb (impl_statesOf_l0 f r key n c hn d (s + 1) (a ++ [now]) (if Int.tmod (mix [key, s, 3, 100]) 100 < (if now = true then f else r) then !now else now) (by omega) (by omega) (by simp; omega)) fun k h1 h2 => ?_
      simp only [impl_statesOf.l0, Option.bind_some, h1, states]
      rw [if_pos (by omega), if_pos (by omega), wrap_id (by omega) (by omega)]
      rw [List.append_assoc] at h2
      cases now with
      | true =>
        simp only [if_true] at h2 ⊢
        by_cases hq : Int.tmod (mix [key, s, 3, 100]) 100 < f
        · simp only [if_pos hq] at h2 ⊢; exact h2
        · simp only [if_neg hq] at h2 ⊢; exact h2
      | false =>
        simp only [Bool.false_eq_true, if_false] at h2 ⊢
        by_cases hq : Int.tmod (mix [key, s, 3, 100]) 100 < r
        · simp only [if_pos hq] at h2 ⊢; exact h2
        · simp only [if_neg hq] at h2 ⊢; exact h2
theorem impl_statesOf_ev (f r key n : Int) (c : Bool) (h0 : 0 ≤ n) (hn : n ≤ 60) : Ev (fun k => impl_statesOf.f k f r c key n) (states f r key n.toNat 0 c) :=
  Ev.of1 (impl_statesOf_l0 f r key n c hn n.toNat 0 [] c (by omega) (by omega) rfl) fun k hk => by simp only [impl_statesOf.f]; exact hk
-- needs: spec_FleetReady
theorem impl_FleetReady_l2 (a1 a2 : Int) (l : List S103) (i : Int) (bs : List Bool) (hn : bs.length ≤ 1048576) (r : List Int × Bool) : ∀ (cs : List Bool) (pre xs : List Int) (j : Nat), pre.length = j → xs.length = cs.length → bs.drop j = cs → (∀ v ∈ xs, 0 ≤ v ∧ v ≤ 1000) →
    Ev (fun k => impl_FleetReady.l1 k a1 a2 (pre ++ addB xs cs) l (l.length : Int) (wrap64 (i + 1))) r → Ev (fun k => impl_FleetReady.l2 k a1 a2 (pre ++ xs) l (l.length : Int) i bs (bs.length : Int) j) r
  | [], pre, xs, j, hp, hx, hj, hv, hr => by
      have h0 := drop_nil hj
      obtain rfl : xs = [] := List.eq_nil_of_length_eq_zero (by simpa using hx)
      refine Ev.next1 hr fun k hk => ?_
      simp only [impl_FleetReady.l2]
      rw [if_neg (by omega)]; exact hk
  | c :: cs, pre, xs, j, hp, hx, hj, hv, hr => by
      obtain ⟨h1, h2, h3⟩ := drop_cons hj
      have e := rdOf_drop (d := false) hj
      cases xs with
      | nil => simp at hx
      | cons x xs =>
        have hx0 := hv x (by simp)
        have hv' : ∀ v ∈ xs, 0 ≤ v ∧ v ≤ 1000 := fun v h => hv v (by simp [h])
        have hx' : xs.length = cs.length := by simpa using hx
        cases c with
        | true =>
          have hr' : Ev (fun k => impl_FleetReady.l1 k a1 a2 ((pre ++ [x + 1]) ++ addB xs cs) l (l.length : Int) (wrap64 (i + 1))) r := by
            rw [List.append_assoc]; exact hr
          refine Ev.next1 (impl_FleetReady_l2 a1 a2 l i bs hn r cs (pre ++ [x + 1]) xs (j + 1) (by simp [hp]) hx' h3 hv' hr') fun k hk => ?_
          have e1 : rd (pre ++ x :: xs) (j : Int) = x := rd_get (by rw [← hp, List.getElem?_append_right (Nat.le_refl _), Nat.sub_self]; rfl)
          have e2 : (pre ++ x :: xs).set j (x + 1) = (pre ++ [x + 1]) ++ xs := by
            rw [List.set_append_right _ _ (by omega), hp, Nat.sub_self, List.append_assoc]; rfl
          simp only [impl_FleetReady.l2, e, e1, if_true]
          rw [if_pos (by omega), if_pos (by omega), if_pos (by omega), if_pos (by simp; omega), wrap_succ h1 (by omega), wrap_id (x := x + 1) (by omega) (by omega), toNat_cast, e2]
          exact hk
        | false =>
          have hr' : Ev (fun k => impl_FleetReady.l1 k a1 a2 ((pre ++ [x]) ++ addB xs cs) l (l.length : Int) (wrap64 (i + 1))) r := by
            rw [List.append_assoc]; exact hr
          refine Ev.next1 (impl_FleetReady_l2 a1 a2 l i bs hn r cs (pre ++ [x]) xs (j + 1) (by simp [hp]) hx' h3 hv' hr') fun k hk => ?_
          simp only [impl_FleetReady.l2, e, Bool.false_eq_true, if_false]
          rw [if_pos (by omega), if_pos (by omega), if_pos (by omega), wrap_succ h1 (by omega)]
          rw [List.append_assoc] at hk; exact hk
theorem impl_FleetReady_l1 (a1 a2 : Int) (l : List S103) (hl : l.length ≤ 8) (h1 : 0 ≤ a1 ∧ a1 ≤ 999999000) (h2 : 0 ≤ a2 ∧ a2 ≤ 60) : ∀ (ys : List S103) (i : Nat) (acc : List Int), l.drop i = ys → acc.length = a2.toNat → (∀ v ∈ acc, 0 ≤ v ∧ v ≤ (i : Int)) →
    Ev (fun k => impl_FleetReady.l1 k a1 a2 acc l (l.length : Int) i) (fleet a2.toNat ys (a1 + i) acc, true)
  | [], i, acc, h, ha, hv => Ev.next0 fun k => by
      have h0 := drop_nil h
      simp only [impl_FleetReady.l1, fleet]
      rw [if_neg (by omega)]
  | y :: ys, i, acc, h, ha, hv => by
      obtain ⟨d1, d2, d3⟩ := drop_cons h
      have e : rd_T103 l i = y := getD_drop h
      have hs := impl_statesOf_ev y.f0 y.f1 (a1 + i) a2 y.f2 h2.1 h2.2
      have hsl := states_length y.f0 y.f1 (a1 + i) a2.toNat 0 y.f2
      have hq := addB_length acc (states y.f0 y.f1 (a1 + i) a2.toNat 0 y.f2) (by omega)
      have i0 := impl_FleetReady_l1 a1 a2 l hl h1 h2 ys (i + 1) (addB acc (states y.f0 y.f1 (a1 + i) a2.toNat 0 y.f2)) d3 (by omega) (fun v hm => by have := addB_mem (i : Int) _ _ hv v hm; omega)
      rw [show a1 + (((i + 1 : Nat)) : Int) = a1 + (i : Int) + 1 by omega, ← wrap_succ d1 (by omega)] at i0
      have i1 := impl_FleetReady_l2 a1 a2 l i (states y.f0 y.f1 (a1 + i) a2.toNat 0 y.f2) (by omega) _ (states y.f0 y.f1 (a1 + i) a2.toNat 0 y.f2) [] acc 0 rfl (by omega) rfl (fun v hm => by have := hv v hm; omega) i0
      refine Ev.next2 hs i1 fun k h3 h4 => ?_
      simp only [impl_FleetReady.l1, e]
      rw [if_pos (by omega), if_pos (by omega), if_pos (by omega), wrap_id (x := a1 + (i : Int)) (by omega) (by omega), h3, Option.bind_some]
      simp only [fleet]
      exact h4
theorem impl_FleetReady_l0 (a1 a2 : Int) (l : List S103) (hl : l.length ≤ 8) (h1 : 0 ≤ a1 ∧ a1 ≤ 999999000) (h2 : 0 ≤ a2 ∧ a2 ≤ 60) : ∀ (ys : List S103) (i : Nat), l.drop i = ys →
    Ev (fun k => impl_FleetReady.l0 k l a1 a2 l (l.length : Int) i) (if machsOk ys = true then (fleet a2.toNat l a1 (List.replicate a2.toNat 0), true) else ([], false))
  | [], i, h => by
      have h0 := drop_nil h
      have i0 := impl_FleetReady_l1 a1 a2 l hl h1 h2 l 0 (List.replicate a2.toNat 0) rfl (by simp) (fun v hv => by have := List.eq_of_mem_replicate hv; omega)
      rw [show a1 + ((0 : Nat) : Int) = a1 by omega] at i0
      refine Ev.next1 i0 fun k hk => ?_
      simp only [impl_FleetReady.l0, machsOk, if_true]
      rw [if_neg (by omega), if_pos h2.1, if_pos (by omega)]
      exact hk
  | y :: ys, i, h => by
      obtain ⟨d1, d2, d3⟩ := drop_cons h
      have e : rd_T103 l i = y := getD_drop h
      refine Ev.next1 (impl_FleetReady_l0 a1 a2 l hl h1 h2 ys (i + 1) d3) fun k hk => ?_
      simp only [impl_FleetReady.l0, e, impl_IsMachine_eq, Option.bind_some]
      rw [if_pos (by omega), if_pos (by omega), if_pos (by omega), wrap_succ d1 (by omega)]
      by_cases hy : machOk y.f0 y.f1 = true
      · rw [if_pos hy]; simpa [machsOk, hy] using hk
      · rw [if_neg hy]; simp [machsOk, hy]
theorem impl_FleetReady_no (l : List S103) (a1 a2 : Int) : Ev (fun k => impl_FleetReady.j0 k l a1 a2 true) ([], false) := Ev.next0 fun k => by simp [impl_FleetReady.j0]
theorem impl_FleetReady_ev (l : List S103) (a1 a2 : Int) : Ev (fun k => impl_FleetReady.f k l a1 a2) (fleetOf l a1 a2) := by
  by_cases h : l.length ≤ 8 ∧ (0 ≤ a1 ∧ a1 ≤ 999999000) ∧ (0 ≤ a2 ∧ a2 ≤ 60)
  · have i0 := impl_FleetReady_l0 a1 a2 l h.1 h.2.1 h.2.2 l 0 rfl
    have i1 : Ev (fun k => impl_FleetReady.j0 k l a1 a2 false) (fleetOf l a1 a2) := Ev.next1 i0 fun k hk => by
      simp only [impl_FleetReady.j0, Bool.false_eq_true, if_false]
      refine hk.trans ?_
      unfold fleetOf
      by_cases hm : machsOk l = true
      · rw [if_pos hm, if_pos ⟨h.1, h.2.1, h.2.2, hm⟩]
      · rw [if_neg hm, if_neg (fun q => hm q.2.2.2)]
    refine Ev.of1 i1 fun k hk => ?_
    simp only [impl_FleetReady.f, impl_areShifts_eq, Option.bind_some]
    rw [if_neg (by omega), if_neg (by omega), if_neg (by omega), show decide (0 ≤ a2 ∧ a2 ≤ 60) = true by simpa using h.2.2]
    exact hk
  · have hf : fleetOf l a1 a2 = ([], false) := by unfold fleetOf; rw [if_neg (fun q => h ⟨q.1, q.2.1, q.2.2.1⟩)]
    refine Ev.of1 (impl_FleetReady_no l a1 a2) fun k hk => ?_
    simp only [impl_FleetReady.f, impl_areShifts_eq, Option.bind_some]
    rw [hf]
    by_cases g1 : l.length ≤ 8
    · rw [if_neg (by omega)]
      by_cases g2 : 0 ≤ a1 ∧ a1 ≤ 999999000
      · rw [if_neg (by omega), if_neg (by omega), show decide (0 ≤ a2 ∧ a2 ≤ 60) = false by simp; intro g3; exact Int.lt_of_not_ge fun g4 => h ⟨g1, g2, g3, g4⟩]
        exact hk
      · by_cases g3 : a1 < 0
        · rw [if_pos g3]; exact hk
        · rw [if_neg g3, if_pos (by omega)]; exact hk
    · rw [if_pos (by omega)]; exact hk
theorem laws_eqMachine_self (a b : Int) (c : Bool) : laws_eqMachine.f a b c a b c = some true := by simp [laws_eqMachine.f]
theorem laws_eqMachineS_l0 (l : List S103) (hn : l.length ≤ 9223372036854775807) : ∀ (ys : List S103) (i : Nat), l.drop i = ys → Ev (fun k => laws_eqMachineS.l0 k l l i) true
  | [], i, h => Ev.next0 fun k => by
      have h0 := drop_nil h
      simp only [laws_eqMachineS.l0]
      rw [if_neg (by omega)]
  | y :: ys, i, h => by
      obtain ⟨h1, h2, h3⟩ := drop_cons h
      refine Ev.next1 (laws_eqMachineS_l0 l hn ys (i + 1) h3) fun k hk => ?_
      simp only [laws_eqMachineS.l0, laws_eqMachine_self, Option.bind_some]
      rw [if_pos (by omega), if_pos (by omega), if_pos (by omega), if_pos (by simp), wrap_succ h1 hn]
      exact hk
theorem laws_eqMachineS_ev (l : List S103) (hn : l.length ≤ 9223372036854775807) : Ev (fun k => laws_eqMachineS.f k l l) true :=
  Ev.of1 (laws_eqMachineS_l0 l hn l 0 rfl) fun k hk => by
    simp only [laws_eqMachineS.f]
    rw [if_pos (by simp)]
    exact hk
theorem markMachine_step (x : List S103) (c : Int) (i : Nat) (hi : i < x.length) : ∃ x' : List S103, (∀ k, laws_markMachineS.l0 (k + 1) x c i = laws_markMachineS.l0 k x' (wrap64 ((wrap64 ((wrap64 (c + 1)) + 1)) + 1)) (wrap64 ((i : Int) + 1))) ∧ x'.length = x.length := by
  refine ⟨_, fun k => by simp only [laws_markMachineS.l0, Option.bind_some]; rw [if_pos (by omega), if_pos (by omega)], ?_⟩
  simp only [List.length_set]
theorem laws_markMachineS_l0 (n : Nat) (hn : n ≤ 2000000) : ∀ (d i : Nat) (x : List S103) (c : Int), i + d = n → x.length = n → 0 ≤ c → c + 3 * (d : Int) ≤ 4611686018427387904 → ∃ z, Ev (fun k => laws_markMachineS.l0 k x c i) (c + 3 * (d : Int), z)
  | 0, i, x, c, hd, hl, hc, hb => ⟨x, Ev.next0 fun k => by
      simp only [laws_markMachineS.l0]
      rw [if_neg (by omega), show c + 3 * ((0 : Nat) : Int) = c by omega]⟩
  | d + 1, i, x, c, hd, hl, hc, hb => by
      obtain ⟨x', hs, hl'⟩ := markMachine_step x c i (by omega)
      obtain ⟨z, hz⟩ := laws_markMachineS_l0 n hn d (i + 1) x' (c + 1 + 1 + 1) (by omega) (by omega) (by omega) (by omega)
      refine ⟨z, Ev.next1 hz fun k hk => ?_⟩
      show laws_markMachineS.l0 (k + 1) x c i = _
      rw [hs, wrap_succ (n := n) (by omega) (by omega), wrap_id (x := c + 1) (by omega) (by omega), wrap_id (x := c + 1 + 1) (by omega) (by omega), wrap_id (x := c + 1 + 1 + 1) (by omega) (by omega)]
      rw [show c + 3 * ((d + 1 : Nat) : Int) = c + 1 + 1 + 1 + 3 * (d : Int) by omega]
      exact hk
theorem laws_markMachineS_ev (x : List S103) (c : Int) (hc : 0 ≤ c) (hb : c + 3 * (x.length : Int) ≤ 5000000) : ∃ z, Ev (fun k => laws_markMachineS.f k x c) (c + 3 * (x.length : Int), z) := by
  obtain ⟨z, hz⟩ := laws_markMachineS_l0 x.length (by omega) x.length 0 x c (by omega) rfl hc (by omega)
  exact ⟨z, Ev.of1 hz fun k hk => by simp only [laws_markMachineS.f]; exact hk⟩
theorem j2_ev (n : Nat) (hn : n ≤ 1048576) : Ev (fun k => laws_FnExactFleetReady.j2 k (markI n 1) (1 + (n : Int)) false) true :=
  (ev_one (laws_heldIntS_ev n 1 (by omega) (by omega))).next fun k h1 => by
    simp only [laws_FnExactFleetReady.j2, h1, Option.bind_some]
    rw [if_neg (by simp), if_neg (by omega), if_pos (by simp)]
theorem j1_ev (l : List S107) (a1 a2 : Int) (hn : l.length ≤ 1048576) (r : List Int × Bool) (hr : r = fleetOf (l.map toMachine) a1 a2) : Ev (fun k => laws_FnExactFleetReady.j1 k l a1 a2 r.1 r.2 r.1 false) true := by
  have hw := fleetOf_len (l.map toMachine) a1 a2
  rw [← hr] at hw
  have hi := impl_FleetReady_ev (l.map toMachine) a1 a2
  rw [← hr] at hi
  refine (ev_and (laws_markIntS_ev r.1 1 (by omega) (by omega)) <| ev_and (laws_heldIntS_ev r.1.length 1 (by omega) (by omega)) <| ev_and (laws_toMachineS_ev l hn) <| ev_and hi <| ev_and (laws_eqIntS_ev r.1 (by omega)) <| ev_one (j2_ev r.1.length (by omega))).next fun k ⟨h1, h2, h3, h4, h5, h6⟩ => ?_
  simp only [laws_FnExactFleetReady.j1, h1, h2, h3, h4, h5, Option.bind_some]
  rw [if_neg (by simp), if_neg (by omega), if_pos (by simp), if_pos (by simp), bne_self_eq_false, h6]
theorem j0_ev (l : List S107) (a1 a2 : Int) (hn : l.length ≤ 1048576) (r : List Int × Bool) (hr : r = fleetOf (l.map toMachine) a1 a2) : Ev (fun k => laws_FnExactFleetReady.j0 k l a1 a2 r.1 r.2 (l.map toMachine) r.1 r.2 false) true := by
  have hw := fleetOf_len (l.map toMachine) a1 a2
  rw [← hr] at hw
  obtain ⟨z, hz⟩ := laws_markMachineS_ev (l.map toMachine) 1 (by omega) (by simp; omega)
  refine (ev_and (laws_toMachineS_ev l hn) <| ev_and (laws_eqMachineS_ev (l.map toMachine) (by simp; omega)) <| ev_and hz <| ev_and (laws_eqIntS_ev r.1 (by omega)) <| ev_one (j1_ev l a1 a2 hn r hr)).next fun k ⟨h1, h2, h3, h4, h5⟩ => ?_
  simp only [laws_FnExactFleetReady.j0, h1, h2, h3, h4, Option.bind_some]
  rw [if_neg (by simp), if_pos (by simp), if_neg (by simp; omega), if_pos (by simp), bne_self_eq_false, h5]
theorem FnExactFleetReady : Stat.FnExactFleetReady := by
  intro l a1 a2 hl _ _
  refine Ev.rounds ?_
  by_cases hg : (1048576 : Int) < l.length
  · refine Ev.all fun k => ?_
    simp only [laws_FnExactFleetReady.f, laws_szMachineS_eq l 1048576 (by omega) (by omega) hl.1, Option.bind_some]
    rw [if_pos hg, if_pos (by omega)]
  · have hn : l.length ≤ 1048576 := by omega
    have hw := fleetOf_len (l.map toMachine) a1 a2
    refine (ev_and (laws_toMachineS_ev l hn) <| ev_and (j0_ev l a1 a2 hn _ rfl) <| ev_and (spec_FleetReady_ev (l.map toMachine) a1 a2) <| ev_and (laws_eqIntS_ev (fleetOf (l.map toMachine) a1 a2).1 (by omega)) <| ev_one (impl_FleetReady_ev (l.map toMachine) a1 a2)).ev fun k ⟨h1, h2, h3, h4, h5⟩ => ?_
    simp only [laws_FnExactFleetReady.f, laws_szMachineS_eq l 1048576 (by omega) (by omega) hl.1, h1, h3, h4, h5, Option.bind_some]
    rw [if_neg hg, if_neg (by omega), if_pos (by simp), bne_self_eq_false, h2]
end Go.Proofs.Ytoaglacdklmafaa.PureFnExactFleetReady
namespace Go.Proofs.Ytoaglacdklmafaa.Pure
theorem FnExactFleetReady : Stat.FnExactFleetReady := PureFnExactFleetReady.FnExactFleetReady
end Go.Proofs.Ytoaglacdklmafaa.Pure
