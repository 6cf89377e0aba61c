/- The law FnExactGrowDug over numbers and lists: it is true of every input. -/
import Derived.Test.YtjkkcejoniadpaaStatFnExactGrowDug
import Derived.Test.YtjkkcejoniadpaaWMore
set_option linter.unusedVariables false
set_option linter.unusedSimpArgs false
namespace Go.Proofs.Ytjkkcejoniadpaa.Kit
open Go.RowKit Go.Proofs.YtjkkcejoniadpaaW.PrintWords Go.Proofs.YtjkkcejoniadpaaW.PrintMore

/-! ### Rounds -/
theorem Ev.all {α : Type} {g : Nat → Option α} {r : α} (h : ∀ k, g k = some r) : Ev g r := ⟨0, fun k _ => h k⟩
theorem Ev.of1 {α β : Type} {g : Nat → Option α} {f : Nat → Option β} {r : α} {b : β} (h : Ev f b) (k : ∀ k, f k = some b → g k = some r) : Ev g r := by
  obtain ⟨K, h⟩ := h; exact ⟨K, fun n hn => k n (h n hn)⟩
theorem Ev.of2 {α β γ : Type} {g : Nat → Option α} {f : Nat → Option β} {f' : Nat → Option γ} {r : α} {b : β} {c : γ} (h : Ev f b) (h' : Ev f' c) (k : ∀ k, f k = some b → f' k = some c → g k = some r) : Ev g r := by
  obtain ⟨K, h⟩ := h; obtain ⟨K', h'⟩ := h'; exact ⟨K + K', fun n hn => k n (h n (by omega)) (h' n (by omega))⟩
theorem Ev.of3 {α β γ δ : Type} {g : Nat → Option α} {f : Nat → Option β} {f' : Nat → Option γ} {f'' : Nat → Option δ} {r : α} {b : β} {c : γ} {d : δ} (h : Ev f b) (h' : Ev f' c) (h'' : Ev f'' d)
    (k : ∀ k, f k = some b → f' k = some c → f'' k = some d → g k = some r) : Ev g r := by
  obtain ⟨K, h⟩ := h; obtain ⟨K', h'⟩ := h'; obtain ⟨K'', h''⟩ := h''
  exact ⟨K + K' + K'', fun n hn => k n (h n (by omega)) (h' n (by omega)) (h'' n (by omega))⟩
/-- Two at once: a pair of facts for one number of rounds. -/
def Both {α β : Type} (f : Nat → Option α) (g : Nat → Option β) (a : α) (b : β) : Prop := ∃ K, ∀ k, K ≤ k → f k = some a ∧ g k = some b
theorem Ev.next0 {α : Type} {g : Nat → Option α} {r : α} (h : ∀ k, g (k + 1) = some r) : Ev g r :=
  ⟨1, fun n hn => by obtain ⟨m, rfl⟩ : ∃ m, n = m + 1 := ⟨n - 1, by omega⟩; exact h m⟩
theorem Ev.next1 {α β : Type} {g : Nat → Option α} {f : Nat → Option β} {r : α} {b : β} (h : Ev f b) (k : ∀ k, f k = some b → g (k + 1) = some r) : Ev g r := by
  obtain ⟨K, h⟩ := h
  exact ⟨K + 1, fun n hn => by obtain ⟨m, rfl⟩ : ∃ m, n = m + 1 := ⟨n - 1, by omega⟩; exact k m (h m (by omega))⟩
theorem Ev.next2 {α β γ : Type} {g : Nat → Option α} {f : Nat → Option β} {f' : Nat → Option γ} {r : α} {b : β} {c : γ} (h : Ev f b) (h' : Ev f' c) (k : ∀ k, f k = some b → f' k = some c → g (k + 1) = some r) : Ev g r := by
  obtain ⟨K, h⟩ := h; obtain ⟨K', h'⟩ := h'
  exact ⟨K + K' + 1, fun n hn => by obtain ⟨m, rfl⟩ : ∃ m, n = m + 1 := ⟨n - 1, by omega⟩; exact k m (h m (by omega)) (h' m (by omega))⟩
theorem Ev.next3 {α β γ δ : Type} {g : Nat → Option α} {f : Nat → Option β} {f' : Nat → Option γ} {f'' : Nat → Option δ} {r : α} {b : β} {c : γ} {d : δ} (h : Ev f b) (h' : Ev f' c) (h'' : Ev f'' d)
    (k : ∀ k, f k = some b → f' k = some c → f'' k = some d → g (k + 1) = some r) : Ev g r := by
  obtain ⟨K, h⟩ := h; obtain ⟨K', h'⟩ := h'; obtain ⟨K'', h''⟩ := h''
  exact ⟨K + K' + K'' + 1, fun n hn => by obtain ⟨m, rfl⟩ : ∃ m, n = m + 1 := ⟨n - 1, by omega⟩; exact k m (h m (by omega)) (h' m (by omega)) (h'' m (by omega))⟩
theorem Ev.uniq {α : Type} {g : Nat → Option α} {r s : α} (h : Ev g r) (k : Ev g s) : r = s := by
  obtain ⟨K, h⟩ := h; obtain ⟨K', k⟩ := k
  have a := h (K + K') (by omega); have b := k (K + K') (by omega)
  rw [a] at b; exact Option.some.inj b

/-- From some number of rounds on. -/
def Evt (p : Nat → Prop) : Prop := ∃ K, ∀ k, K ≤ k → p k
theorem ev_one {α : Type} {f : Nat → Option α} {a : α} (h : Ev f a) : Evt (fun k => f k = some a) := h
theorem ev_and {α : Type} {f : Nat → Option α} {a : α} {p : Nat → Prop} (h : Ev f a) (h' : Evt p) : Evt (fun k => f k = some a ∧ p k) := by
  obtain ⟨K, h⟩ := h; obtain ⟨K', h'⟩ := h'; exact ⟨K + K', fun n hn => ⟨h n (by omega), h' n (by omega)⟩⟩
theorem Evt.ev {α : Type} {g : Nat → Option α} {r : α} {p : Nat → Prop} (h : Evt p) (k : ∀ k, p k → g k = some r) : Ev g r := by
  obtain ⟨K, h⟩ := h; exact ⟨K, fun n hn => k n (h n hn)⟩
theorem Evt.next {α : Type} {g : Nat → Option α} {r : α} {p : Nat → Prop} (h : Evt p) (k : ∀ k, p k → g (k + 1) = some r) : Ev g r := by
  obtain ⟨K, h⟩ := h
  exact ⟨K + 1, fun n hn => by obtain ⟨m, rfl⟩ : ∃ m, n = m + 1 := ⟨n - 1, by omega⟩; exact k m (h m (by omega))⟩

/-! ### Whole numbers -/
theorem wrap_id {x : Int} (h0 : -9223372036854775808 ≤ x) (h1 : x ≤ 9223372036854775807) : wrap64 x = x := by unfold wrap64; omega
theorem wrap_succ {i n : Nat} (h : i < n) (hn : n ≤ 9223372036854775807) : wrap64 ((i : Int) + 1) = ((i + 1 : Nat) : Int) := by unfold wrap64; omega
theorem toNat_cast (i : Nat) : ((i : Int)).toNat = i := by omega

theorem mx_eq (a b : Int) : mx a b = max a b := by unfold mx; split <;> omega
theorem mn_eq (a b : Int) : mn a b = min a b := by unfold mn; split <;> omega

/-! ### Lists from an index on -/
theorem drop_cons {α : Type} {xs ys : List α} {y : α} {i : Nat} (h : xs.drop i = y :: ys) : i < xs.length ∧ xs[i]? = some y ∧ xs.drop (i + 1) = ys := by
  have hlt : i < xs.length := by
    by_cases hlt : i < xs.length
    · exact hlt
    · rw [List.drop_of_length_le (by omega)] at h; cases h
  rw [List.drop_eq_getElem_cons hlt] at h
  injection h with h1 h2
  exact ⟨hlt, by rw [List.getElem?_eq_getElem hlt, h1], h2⟩
theorem drop_nil {α : Type} {xs : List α} {i : Nat} (h : xs.drop i = []) : xs.length ≤ i := by simpa using h
theorem getD_drop {α : Type} {xs ys : List α} {y d : α} {i : Nat} (h : xs.drop i = y :: ys) : xs.getD ((i : Int)).toNat d = y := by
  rw [toNat_cast, List.getD_eq_getElem?_getD, (drop_cons h).2.1]; rfl
theorem rd_drop {xs ys : List Int} {y : Int} {i : Nat} (h : xs.drop i = y :: ys) : rd xs (i : Int) = y := getD_drop h
theorem rdOf_drop {α : Type} {xs ys : List α} {y d : α} {i : Nat} (h : xs.drop i = y :: ys) : rdOf d xs (i : Int) = y := getD_drop h
theorem getD_get {α : Type} {xs : List α} {y d : α} {i : Nat} (h : xs[i]? = some y) : xs.getD ((i : Int)).toNat d = y := by
  rw [toNat_cast, List.getD_eq_getElem?_getD, h]; rfl
theorem rd_get {xs : List Int} {y : Int} {i : Nat} (h : xs[i]? = some y) : rd xs (i : Int) = y := getD_get h
theorem rdOf_get {α : Type} {xs : List α} {y d : α} {i : Nat} (h : xs[i]? = some y) : rdOf d xs (i : Int) = y := getD_get h
theorem drop_of_get {α : Type} {xs : List α} {y : α} {i : Nat} (h : xs[i]? = some y) : xs.drop i = y :: xs.drop (i + 1) := by
  obtain ⟨hl, rfl⟩ := List.getElem?_eq_some_iff.1 h
  exact List.drop_eq_getElem_cons hl

/-- What is left of a, n taken off; -1 if it isn't enough. -/
def left (a : Int) (n : Nat) : Int := if a < (n : Int) then -1 else a - (n : Int)
theorem left_lt {a : Int} {n : Nat} (h : a < (n : Int)) : left a n = -1 := if_pos h
theorem left_ge {a : Int} {n : Nat} (h : (n : Int) ≤ a) : left a n = a - (n : Int) := if_neg (by omega)
/-- How many values rows hold, the rows counted too. -/
def tot : List (List Int) → Nat
  | [] => 0
  | y :: ys => 1 + y.length + tot ys
def sumLen : List (List Int) → Nat
  | [] => 0
  | y :: ys => y.length + sumLen ys
theorem tot_eq : ∀ ls : List (List Int), tot ls = ls.length + sumLen ls
  | [] => rfl
  | y :: ys => by simp only [tot, sumLen, List.length_cons, tot_eq ys]; omega
theorem sumLen_mem : ∀ {ls : List (List Int)} {y : List Int}, y ∈ ls → y.length ≤ sumLen ls
  | z :: zs, y, h => by
    rcases List.mem_cons.1 h with rfl | h
    · simp only [sumLen]; omega
    · have := sumLen_mem h; simp only [sumLen]; omega

/-! ### A list that is copied, element for element -/
theorem copy_step {α : Type} {m x : List α} {y : α} {i : Nat} (hm : m[i]? = some y) (hl : x.length = m.length) (ht : x.take i = m.take i) : (x.set i y).length = m.length ∧ (x.set i y).take (i + 1) = m.take (i + 1) := by
  obtain ⟨hi, rfl⟩ := List.getElem?_eq_some_iff.1 hm
  refine ⟨by simpa using hl, ?_⟩
  apply List.ext_getElem?
  intro j
  have hj : (x.take i)[j]? = (m.take i)[j]? := by rw [ht]
  rw [List.getElem?_take, List.getElem?_take] at *
  by_cases h1 : j < i + 1
  · rw [if_pos h1, if_pos h1]
    by_cases h2 : j = i
    · subst h2
      rw [List.getElem?_set_self (by omega), List.getElem?_eq_getElem hi]
    · rw [List.getElem?_set_ne (by omega)]
      rw [if_pos (by omega), if_pos (by omega)] at hj
      exact hj
  · rw [if_neg h1, if_neg h1]
theorem copy_end {α : Type} {m x : List α} {i : Nat} (hl : x.length = m.length) (ht : x.take i = m.take i) (hi : m.length ≤ i) : x = m := by
  rw [List.take_of_length_le (by omega), List.take_of_length_le hi] at ht; exact ht

/-! ### Strictly increasing lists of 0..n-1 -/
def rise (n : Int) : Int → List Int → Bool
  | _, [] => true
  | p, y :: ys => decide (0 ≤ y ∧ y < n ∧ p < y) && rise n y ys
theorem rise_mem {n : Int} : ∀ {p : Int} {ys : List Int}, rise n p ys = true → ∀ y ∈ ys, 0 ≤ y ∧ y < n ∧ p < y
  | p, [], _, y, hy => by cases hy
  | p, z :: zs, h, y, hy => by
    simp only [rise, Bool.and_eq_true, decide_eq_true_eq] at h
    rcases List.mem_cons.1 hy with rfl | hy
    · exact h.1
    · have := rise_mem h.2 y hy; omega

/-! ### Numbers marked and held -/
def markI : Nat → Int → List Int
  | 0, _ => []
  | n + 1, k => k :: markI n (k + 1)
theorem markI_length : ∀ (n : Nat) (k : Int), (markI n k).length = n
  | 0, _ => rfl
  | n + 1, k => by simp [markI, markI_length n (k + 1)]
theorem markI_get : ∀ (n : Nat) (k : Int) (j : Nat), j < n → (markI n k)[j]? = some (k + j)
  | 0, _, _, h => by omega
  | n + 1, k, 0, _ => by simp [markI]
  | n + 1, k, j + 1, h => by simp only [markI, List.getElem?_cons_succ]; rw [markI_get n (k + 1) j (by omega)]; congr 1; push_cast; omega
def markB : Nat → Int → List Bool
  | 0, _ => []
  | n + 1, k => (Int.tmod k 3 == 0) :: markB n (k + 1)
theorem markB_length : ∀ (n : Nat) (k : Int), (markB n k).length = n
  | 0, _ => rfl
  | n + 1, k => by simp [markB, markB_length n (k + 1)]
theorem markB_get : ∀ (n : Nat) (k : Int) (j : Nat), j < n → (markB n k)[j]? = some (Int.tmod (k + j) 3 == 0)
  | 0, _, _, h => by omega
  | n + 1, k, 0, _ => by simp [markB]
  | n + 1, k, j + 1, h => by simp only [markB, List.getElem?_cons_succ]; rw [markB_get n (k + 1) j (by omega)]; congr 2; congr 1; push_cast; omega
end Go.Proofs.Ytjkkcejoniadpaa.Kit
namespace Go.Proofs.Ytjkkcejoniadpaa.Model
open Go.RowKit Go.Proofs.YtjkkcejoniadpaaW.PrintWords Go.Proofs.Ytjkkcejoniadpaa.Kit

/-- Numbers within bounds, all of them. -/
def allIn (lo hi : Int) : List Int → Bool
  | [] => true
  | y :: ys => decide (lo ≤ y ∧ y ≤ hi) && allIn lo hi ys
theorem allIn_mem {lo hi : Int} : ∀ {ys : List Int}, allIn lo hi ys = true → ∀ y ∈ ys, lo ≤ y ∧ y ≤ hi
  | [], _, y, hy => by cases hy
  | z :: zs, h, y, hy => by
    simp only [allIn, Bool.and_eq_true, decide_eq_true_eq] at h
    rcases List.mem_cons.1 hy with rfl | hy
    · exact h.1
    · exact allIn_mem h.2 y hy
theorem allIn_get {lo hi : Int} {ys : List Int} (h : allIn lo hi ys = true) {i : Nat} {y : Int} (hy : ys[i]? = some y) : lo ≤ y ∧ y ≤ hi := allIn_mem h y (List.mem_of_getElem? hy)
theorem allIn_of {lo hi : Int} : ∀ {ys : List Int}, (∀ y ∈ ys, lo ≤ y ∧ y ≤ hi) → allIn lo hi ys = true
  | [], _ => rfl
  | z :: zs, h => by simp only [allIn, Bool.and_eq_true, decide_eq_true_eq]; exact ⟨h z (by simp), allIn_of fun y hy => h y (by simp [hy])⟩

/-- The greatest number of 'false' behind each other; m: so far; n: those just before. -/
def down : List Bool → Int → Int → Int
  | [], m, _ => m
  | b :: bs, m, n => if b = true then down bs (max m 0) 0 else down bs (max m (n + 1)) (n + 1)

def mixStep (a x : Int) : Int := Int.tmod (wrap64 ((Int.tmod (wrap64 ((wrap64 ((wrap64 (33 * a)) + x)) + 11)) 1000003) * (wrap64 ((wrap64 (Int.tdiv (Int.tmod (wrap64 ((wrap64 ((wrap64 (33 * a)) + x)) + 11)) 1000003) 16)) + 7)))) 1000003
def mix (l : List Int) : Int := (l ++ [5, 2]).foldl mixStep (wrap64 (6007 + (l.length : Int)))
def keyOk (l : List Int) : Bool := decide (l.length ≤ 8) && allIn 0 1000000000 l

def gridOk (x y z : Int) : Bool := decide (1 ≤ x ∧ x ≤ 8 ∧ 1 ≤ y ∧ y ≤ 6 ∧ 1 ≤ z ∧ z ≤ 5 ∧ x * y * z ≤ 120)
theorem grid_prod {x y z : Int} (hx : 1 ≤ x ∧ x ≤ 8) (hy : 1 ≤ y ∧ y ≤ 6) (hz : 1 ≤ z ∧ z ≤ 5) : 1 ≤ x * y ∧ x * y ≤ 48 ∧ 1 ≤ x * y * z ∧ x * y * z ≤ 240 := by
  rcases (by omega : x = 1 ∨ x = 2 ∨ x = 3 ∨ x = 4 ∨ x = 5 ∨ x = 6 ∨ x = 7 ∨ x = 8) with rfl | rfl | rfl | rfl | rfl | rfl | rfl | rfl <;>
    rcases (by omega : z = 1 ∨ z = 2 ∨ z = 3 ∨ z = 4 ∨ z = 5) with rfl | rfl | rfl | rfl | rfl <;> omega
theorem grid_ok {x y z : Int} (h : gridOk x y z = true) : (1 ≤ x ∧ x ≤ 8) ∧ (1 ≤ y ∧ y ≤ 6) ∧ (1 ≤ z ∧ z ≤ 5) ∧ 1 ≤ x * y ∧ x * y ≤ 48 ∧ 1 ≤ x * y * z ∧ x * y * z ≤ 120 := by
  simp only [gridOk, decide_eq_true_eq] at h
  have := grid_prod (x := x) (y := y) (z := z) (by omega) (by omega) (by omega)
  omega
theorem grid_wrap {x y z : Int} (hx : 1 ≤ x ∧ x ≤ 8) (hy : 1 ≤ y ∧ y ≤ 6) (hz : 1 ≤ z ∧ z ≤ 5) : wrap64 (wrap64 (x * y) * z) = x * y * z := by
  have := grid_prod hx hy hz
  rw [wrap_id (x := x * y) (by omega) (by omega), wrap_id (by omega) (by omega)]
def holeOk (gx gy gz x y z t g : Int) : Bool := decide (0 ≤ x ∧ x < 10 * gx ∧ 0 ≤ y ∧ y < 10 * gy ∧ 0 ≤ z ∧ z < 10 * gz ∧ 1 ≤ t ∧ t ≤ 1000 ∧ 0 ≤ g ∧ g ≤ 1000)
def benchOk (x y : Int) (l : List Int) : Bool := decide (1 ≤ x ∧ x ≤ 8 ∧ 1 ≤ y ∧ y ≤ 6 ∧ (l.length : Int) = x * y) && allIn (-1000000) 1000000 l
theorem bench_prod {x y : Int} (hx : 1 ≤ x ∧ x ≤ 8) (hy : 1 ≤ y ∧ y ≤ 6) : 1 ≤ x * y ∧ x * y ≤ 48 := by
  rcases (by omega : x = 1 ∨ x = 2 ∨ x = 3 ∨ x = 4 ∨ x = 5 ∨ x = 6 ∨ x = 7 ∨ x = 8) with rfl | rfl | rfl | rfl | rfl | rfl | rfl | rfl <;> omega
theorem bench_len {x y : Int} {l : List Int} (h : benchOk x y l = true) : (1 ≤ x ∧ x ≤ 8) ∧ (1 ≤ y ∧ y ≤ 6) ∧ (l.length : Int) = x * y ∧ 1 ≤ l.length ∧ l.length ≤ 48 := by
  simp only [benchOk, Bool.and_eq_true, decide_eq_true_eq] at h
  have := bench_prod (x := x) (y := y) (by omega) (by omega)
  omega
theorem bench_vals {x y : Int} {l : List Int} (h : benchOk x y l = true) : allIn (-1000000) 1000000 l = true := by
  simp only [benchOk, Bool.and_eq_true] at h; exact h.2
def rowHolds (l : List Int) : Bool := decide (rd l 0 = wrap64 (wrap64 (rd l 2 + rd l 4) + rd l 6)) && (rd l 1 == wrap64 (wrap64 (rd l 3 + rd l 5) + rd l 7))
def rowOk (l : List Int) : Bool := decide (l.length = 12) && allIn 0 100000000000 l
def rowsOk : List (List Int) → Bool
  | [] => true
  | y :: ys => rowOk y && rowsOk ys
theorem rowsOk_mem : ∀ {ls : List (List Int)}, rowsOk ls = true → ∀ y ∈ ls, rowOk y = true
  | z :: zs, h, y, hy => by
    simp only [rowsOk, Bool.and_eq_true] at h
    rcases List.mem_cons.1 hy with rfl | hy
    · exact h.1
    · exact rowsOk_mem h.2 y hy
theorem row_len {y : List Int} (h : rowOk y = true) : y.length = 12 := by simp [rowOk] at h; exact h.1
theorem row_rd {y : List Int} (h : rowOk y = true) (i : Nat) (hi : i < 12) : 0 ≤ rd y (i : Int) ∧ rd y (i : Int) ≤ 100000000000 := by
  have hl := row_len h
  simp only [rowOk, Bool.and_eq_true] at h
  have hg : y[i]? = some (y[i]'(by omega)) := List.getElem?_eq_getElem (by omega)
  rw [rd_get hg]
  exact allIn_get h.2 hg
def piles : List (List Int) → Int → Int
  | [], m => m
  | y :: ys, m => piles ys (max m (rd y 10))
/-- The first row that doesn't balance, from index i on. -/
def imbal : List (List Int) → Nat → Int → Int → Nat
  | [], i, _, _ => i
  | y :: ys, i, t, m => if rowHolds y = true ∧ rd y 10 = t + (rd y 4 - rd y 8) ∧ rd y 11 = m + (rd y 5 - rd y 9) then imbal ys (i + 1) (rd y 10) (rd y 11) else i
def machOk (a b : Int) : Bool := decide (0 ≤ a ∧ a ≤ 100 ∧ 0 ≤ b ∧ b ≤ 100)
/-- The states of a machine: d shifts, from shift s on; 'now': is it ready? -/
def states (f r key : Int) : Nat → Int → Bool → List Bool
  | 0, _, _ => []
  | d + 1, s, now => now :: states f r key d (s + 1) (if Int.tmod (mix [key, s, 3, 100]) 100 < (if now = true then f else r) then !now else now)
theorem states_length (f r key : Int) : ∀ (d : Nat) (s : Int) (now : Bool), (states f r key d s now).length = d
  | 0, _, _ => rfl
  | d + 1, s, now => by simp [states, states_length]
/-- Tonnes and losses of a bench. -/
def lossWaste : List Int → List Bool → Int → Int → Int × Int
  | v :: vs, b :: bs, l, w => if b = true then lossWaste vs bs l (w + max 0 (-v)) else lossWaste vs bs (l + max 0 v) w
  | _, _, l, w => (l, w)
def dugSum : List Int → List Bool → Int → Int
  | v :: vs, b :: bs, s => dugSum vs bs (if b = true then s + v else s)
  | _, _, s => s
def modelOk (x y z : Int) (t g r : List Int) : Bool := gridOk x y z && decide ((t.length : Int) = x * y * z ∧ (g.length : Int) = x * y * z ∧ (r.length : Int) = x * y * z) && (allIn 0 10000 t && (allIn 0 1000 g && allIn 0 4 r))
theorem sq_bd {d : Int} (h : -1000 ≤ d ∧ d ≤ 1000) : 0 ≤ d * d ∧ d * d ≤ 1000000 := by
  rcases Int.le_total 0 d with h0 | h0
  · exact ⟨Int.mul_nonneg h0 h0, Int.mul_le_mul h.2 h.2 h0 (by omega)⟩
  · rw [← Int.neg_mul_neg]
    exact ⟨Int.mul_nonneg (by omega) (by omega), Int.mul_le_mul (a := -d) (b := -d) (c := 1000) (d := 1000) (by omega) (by omega) (by omega) (by omega)⟩
/-- The square of the distance of a place from the middle of a block's place. -/
def farOf (px py pz x y z : Int) : Int := (x - 10 * px - 5) * (x - 10 * px - 5) + (y - 10 * py - 5) * (y - 10 * py - 5) + (z - 10 * pz - 5) * (z - 10 * pz - 5)
theorem far_nonneg (px py pz x y z : Int) : 0 ≤ farOf px py pz x y z := by
  have h : ∀ d : Int, 0 ≤ d * d := fun d => by
    rcases Int.le_total 0 d with h0 | h0
    · exact Int.mul_nonneg h0 h0
    · rw [← Int.neg_mul_neg]; exact Int.mul_nonneg (by omega) (by omega)
  have a := h (x - 10 * px - 5); have b := h (y - 10 * py - 5); have c := h (z - 10 * pz - 5)
  unfold farOf; omega
theorem far_wrap {px py pz x y z : Int} (hx : 0 ≤ px ∧ px ≤ 10) (hy : 0 ≤ py ∧ py ≤ 10) (hz : 0 ≤ pz ∧ pz ≤ 10) (kx : 0 ≤ x ∧ x ≤ 100) (ky : 0 ≤ y ∧ y ≤ 100) (kz : 0 ≤ z ∧ z ≤ 100) :
    wrap64 ((wrap64 ((wrap64 ((wrap64 ((wrap64 (x - (wrap64 (10 * px)))) - 5)) * (wrap64 ((wrap64 (x - (wrap64 (10 * px)))) - 5)))) + (wrap64 ((wrap64 ((wrap64 (y - (wrap64 (10 * py)))) - 5)) * (wrap64 ((wrap64 (y - (wrap64 (10 * py)))) - 5)))))) + (wrap64 ((wrap64 ((wrap64 (z - (wrap64 (10 * pz)))) - 5)) * (wrap64 ((wrap64 (z - (wrap64 (10 * pz)))) - 5))))) = farOf px py pz x y z := by
  have a := sq_bd (d := x - 10 * px - 5) (by omega)
  have b := sq_bd (d := y - 10 * py - 5) (by omega)
  have c := sq_bd (d := z - 10 * pz - 5) (by omega)
  rw [wrap_id (x := 10 * px) (by omega) (by omega), wrap_id (x := 10 * py) (by omega) (by omega), wrap_id (x := 10 * pz) (by omega) (by omega),
    wrap_id (x := x - 10 * px) (by omega) (by omega), wrap_id (x := y - 10 * py) (by omega) (by omega), wrap_id (x := z - 10 * pz) (by omega) (by omega),
    wrap_id (x := x - 10 * px - 5) (by omega) (by omega), wrap_id (x := y - 10 * py - 5) (by omega) (by omega), wrap_id (x := z - 10 * pz - 5) (by omega) (by omega),
    wrap_id (x := (x - 10 * px - 5) * (x - 10 * px - 5)) (by omega) (by omega), wrap_id (x := (y - 10 * py - 5) * (y - 10 * py - 5)) (by omega) (by omega), wrap_id (x := (z - 10 * pz - 5) * (z - 10 * pz - 5)) (by omega) (by omega),
    wrap_id (x := (x - 10 * px - 5) * (x - 10 * px - 5) + (y - 10 * py - 5) * (y - 10 * py - 5)) (by omega) (by omega), wrap_id (by omega) (by omega)]
  rfl
def near {α : Type} (far : α → Int) : List α → Int → Int → Int → Int
  | [], _, best, _ => best
  | h :: hs, i, best, least => if least < 0 ∨ far h < least then near far hs (i + 1) i (far h) else near far hs (i + 1) best least
def hasBlock (x y z i : Int) : Bool := gridOk x y z && decide (0 ≤ i ∧ i < x * y * z)
theorem place_of {x y z i : Int} (h : hasBlock x y z i = true) : (0 ≤ i % x ∧ i % x < x) ∧ (0 ≤ i / x % y ∧ i / x % y < y) ∧ (0 ≤ i / x / y ∧ i / x / y < z) ∧ 0 ≤ i / x ∧ i / x ≤ 120 := by
  simp only [hasBlock, Bool.and_eq_true, decide_eq_true_eq] at h
  have hb := grid_ok h.1
  have hi := h.2
  have h1 : 0 ≤ i / x := Int.ediv_nonneg (by omega) (by omega)
  have h2 : i / x < y * z := by
    apply Int.ediv_lt_of_lt_mul (by omega)
    rw [Int.mul_comm (y * z) x, ← Int.mul_assoc]; exact hi.2
  have h3 : i / x / y < z := by
    apply Int.ediv_lt_of_lt_mul (by omega)
    rw [Int.mul_comm z y]; exact h2
  have h4 : i / x ≤ i := Int.ediv_le_self _ (by omega)
  exact ⟨⟨Int.emod_nonneg _ (by omega), Int.emod_lt_of_pos _ (by omega)⟩, ⟨Int.emod_nonneg _ (by omega), Int.emod_lt_of_pos _ (by omega)⟩, ⟨Int.ediv_nonneg h1 (by omega), h3⟩, h1, by omega⟩
/-- A fraction in lowest terms, of numbers that are not negative. -/
def low (a b : Int) : Int × Int := (a / (Nat.gcd a.natAbs b.natAbs : Int), b / (Nat.gcd a.natAbs b.natAbs : Int))
theorem low_bd {a b : Int} (ha : 0 ≤ a) (hb : 0 < b) : 1 ≤ (Nat.gcd a.natAbs b.natAbs : Int) ∧ 0 ≤ (low a b).1 ∧ (low a b).1 ≤ a ∧ 1 ≤ (low a b).2 ∧ (low a b).2 ≤ b ∧ a = (low a b).1 * (Nat.gcd a.natAbs b.natAbs : Int) ∧ b = (low a b).2 * (Nat.gcd a.natAbs b.natAbs : Int) := by
  have hg : 0 < Nat.gcd a.natAbs b.natAbs := Nat.gcd_pos_of_pos_right _ (by omega)
  have d1 : (Nat.gcd a.natAbs b.natAbs : Int) ∣ a := Int.natAbs_dvd_natAbs.1 (by simpa using Nat.gcd_dvd_left a.natAbs b.natAbs)
  have d2 : (Nat.gcd a.natAbs b.natAbs : Int) ∣ b := Int.natAbs_dvd_natAbs.1 (by simpa using Nat.gcd_dvd_right a.natAbs b.natAbs)
  have e1 := Int.ediv_mul_cancel d1
  have e2 := Int.ediv_mul_cancel d2
  have h1 : 0 ≤ a / (Nat.gcd a.natAbs b.natAbs : Int) := Int.ediv_nonneg ha (by omega)
  have h2 : a / (Nat.gcd a.natAbs b.natAbs : Int) ≤ a := Int.ediv_le_self _ ha
  have h3 : 0 ≤ b / (Nat.gcd a.natAbs b.natAbs : Int) := Int.ediv_nonneg (by omega) (by omega)
  have h4 : b / (Nat.gcd a.natAbs b.natAbs : Int) ≤ b := Int.ediv_le_self _ (by omega)
  refine ⟨by omega, h1, h2, ?_, h4, e1.symm, e2.symm⟩
  by_cases h5 : b / (Nat.gcd a.natAbs b.natAbs : Int) = 0
  · rw [h5] at e2; omega
  · show 1 ≤ b / (Nat.gcd a.natAbs b.natAbs : Int); omega
theorem low_scale {a b c : Int} (ha : 0 ≤ a) (hb : 0 < b) (hc : 0 < c) : low (a * c) (b * c) = low a b := by
  have hg : 0 < Nat.gcd a.natAbs b.natAbs := Nat.gcd_pos_of_pos_right _ (by omega)
  have e : (Nat.gcd (a * c).natAbs (b * c).natAbs : Int) = (Nat.gcd a.natAbs b.natAbs : Int) * c := by
    rw [Int.natAbs_mul, Int.natAbs_mul, Nat.gcd_mul_right, Int.natCast_mul]; congr 1; omega
  simp only [low, e]
  rw [Int.mul_ediv_mul_of_pos_left _ _ hc, Int.mul_ediv_mul_of_pos_left _ _ hc]
/-- Ready and down, behind one shift more. -/
def turn (f r : Int) (p : Int × Int) : Int × Int := (p.1 * (100 - f) + p.2 * r, p.1 * f + p.2 * (100 - r))
def turns (f r : Int) : Nat → Int × Int → Int × Int
  | 0, p => p
  | n + 1, p => turns f r n (turn f r p)
def begin_ (c : Bool) : Int × Int := if c = true then (1, 0) else (0, 1)
theorem turn_bd {f r : Int} {p : Int × Int} (hm : machOk f r = true) (h1 : 0 ≤ p.1) (h2 : 0 ≤ p.2) :
    (0 ≤ p.1 * (100 - f) ∧ p.1 * (100 - f) ≤ p.1 * 100) ∧ (0 ≤ p.2 * r ∧ p.2 * r ≤ p.2 * 100) ∧ (0 ≤ p.1 * f ∧ p.1 * f ≤ p.1 * 100) ∧ (0 ≤ p.2 * (100 - r) ∧ p.2 * (100 - r) ≤ p.2 * 100) ∧ p.1 * f = p.1 * 100 - p.1 * (100 - f) ∧ p.2 * (100 - r) = p.2 * 100 - p.2 * r := by
  simp only [machOk, decide_eq_true_eq] at hm
  have m : ∀ {a b : Int}, 0 ≤ a → 0 ≤ b → b ≤ 100 → 0 ≤ a * b ∧ a * b ≤ a * 100 := fun ha hb hc => ⟨Int.mul_nonneg ha hb, Int.mul_le_mul_of_nonneg_left hc ha⟩
  refine ⟨m h1 (by omega) (by omega), m h2 (by omega) (by omega), m h1 (by omega) (by omega), m h2 (by omega) (by omega), ?_, ?_⟩
  · rw [Int.mul_sub]; omega
  · rw [Int.mul_sub]
theorem turn_sum {f r : Int} {p : Int × Int} (hm : machOk f r = true) (h1 : 0 ≤ p.1) (h2 : 0 ≤ p.2) : 0 ≤ (turn f r p).1 ∧ 0 ≤ (turn f r p).2 ∧ (turn f r p).1 + (turn f r p).2 = (p.1 + p.2) * 100 := by
  have := turn_bd hm h1 h2
  simp only [turn]; omega
theorem turns_sum {f r : Int} (hm : machOk f r = true) : ∀ (n : Nat) (p : Int × Int), 0 ≤ p.1 → 0 ≤ p.2 → 0 ≤ (turns f r n p).1 ∧ 0 ≤ (turns f r n p).2 ∧ (turns f r n p).1 + (turns f r n p).2 = (p.1 + p.2) * 100 ^ n
  | 0, p, h1, h2 => by simp [turns, h1, h2]
  | n + 1, p, h1, h2 => by
    have a := turn_sum hm h1 h2
    have b := turns_sum hm n (turn f r p) a.1 a.2.1
    simp only [turns]
    refine ⟨b.1, b.2.1, ?_⟩
    rw [b.2.2, a.2.2, Int.pow_succ, Int.mul_assoc, Int.mul_comm 100 (100 ^ n)]
theorem pow_ge (n : Nat) : 1 ≤ (100 : Int) ^ n := by have := Int.pow_pos (n := 100) (m := n) (by omega); omega
/-- What the shifts tell: the first number of each. -/
def tells (f r : Int) : Nat → Int × Int → List Int
  | 0, _ => []
  | n + 1, p => (turn f r p).1 :: tells f r n (turn f r p)
theorem tells_length (f r : Int) : ∀ (n : Nat) (p : Int × Int), (tells f r n p).length = n
  | 0, _ => rfl
  | n + 1, p => by simp [tells, tells_length f r n]
theorem tells_get (f r : Int) : ∀ (n : Nat) (p : Int × Int) (s : Nat), s < n → (tells f r n p)[s]? = some (turns f r (s + 1) p).1
  | 0, _, s, h => by omega
  | n + 1, p, 0, h => by simp [tells, turns]
  | n + 1, p, s + 1, h => by simp only [tells, List.getElem?_cons_succ]; rw [tells_get f r n (turn f r p) s (by omega)]; rfl
/-- The sum of the first j numbers, each brought to 100 to the power e. -/
def meanSum (C : Nat → Int) (e : Nat) : Nat → Int
  | 0 => 0
  | j + 1 => meanSum C e j + C j * 100 ^ (e - j)
theorem meanSum_bd {C : Nat → Int} {e : Nat} (hC : ∀ s, s ≤ 5 → 0 ≤ C s ∧ C s ≤ 100 ^ s) : ∀ j, j ≤ e + 1 → j ≤ 5 → (0 ≤ meanSum C e j ∧ meanSum C e j ≤ j * 100 ^ e) ∧ (j ≤ e → 0 ≤ C j * 100 ^ (e - j) ∧ C j * 100 ^ (e - j) ≤ 100 ^ e)
  | 0, h, h5 => ⟨by simp [meanSum], fun _ => by
      have c := hC 0 (by omega)
      refine ⟨Int.mul_nonneg c.1 (by have := pow_ge (e - 0); omega), ?_⟩
      have h : C 0 * 100 ^ (e - 0) ≤ 1 * 100 ^ (e - 0) := Int.mul_le_mul_of_nonneg_right (by simpa using c.2) (by have := pow_ge (e - 0); omega)
      simpa using h⟩
  | j + 1, h, h5 => by
    have a := meanSum_bd (e := e) hC j (by omega) (by omega)
    have a2 := a.2 (by omega)
    refine ⟨?_, fun hj => ?_⟩
    · simp only [meanSum]
      have e1 : ((j + 1 : Nat) : Int) * 100 ^ e = (j : Int) * 100 ^ e + 100 ^ e := by rw [Int.natCast_succ, Int.add_mul, Int.one_mul]
      omega
    · have c := hC (j + 1) h5
      have hp := pow_ge (e - (j + 1))
      refine ⟨Int.mul_nonneg c.1 (by omega), ?_⟩
      have q : C (j + 1) * 100 ^ (e - (j + 1)) ≤ 100 ^ (j + 1) * 100 ^ (e - (j + 1)) := Int.mul_le_mul_of_nonneg_right c.2 (by omega)
      rw [← Int.pow_add (100 : Int) (j + 1) (e - (j + 1)), show j + 1 + (e - (j + 1)) = e by omega] at q
      exact q
theorem meanSum_scale (C : Nat → Int) (e d : Nat) : ∀ j, j ≤ e + 1 → meanSum C (e + d) j = meanSum C e j * 100 ^ d
  | 0, h => by simp [meanSum]
  | j + 1, h => by
    simp only [meanSum]
    rw [meanSum_scale C e d j (by omega), Int.add_mul, Int.mul_assoc (C j), ← Int.pow_add, show e + d - j = e - j + d by omega]
theorem pow_div (j : Nat) (h : j ≤ 4) : (100000000 : Int) / 100 ^ j = 100 ^ (4 - j) := by
  rcases (by omega : j = 0 ∨ j = 1 ∨ j = 2 ∨ j = 3 ∨ j = 4) with rfl | rfl | rfl | rfl | rfl <;> decide
/-- A row of cells and rows of them, as bytes: the last row first. -/
def rowBytes (bs : List Bool) : List Int := bs.map fun b => if b = true then 35 else 46
def digBytes (d : List Bool) (w : Nat) : Nat → List Int
  | 0 => []
  | y + 1 => rowBytes ((d.drop (y * w)).take w) ++ 10 :: digBytes d w y
theorem str_snoc (xs : List Int) (x : Int) (b : UInt8) (h : UInt8.ofNat x.toNat = b) : strOfNums xs ++ (⟨#[b]⟩ : ByteArray) = strOfNums (xs ++ [x]) := by
  apply ByteArray.ext
  simp [strOfNums, ByteArray.data_append, h]
theorem grid_row {w y : Nat} {n : Nat} (hw : 1 ≤ w ∧ w ≤ 8) (hy : y < 6) (hn : (y + 1) * w ≤ n) (h48 : n ≤ 48) : y * w ≤ 48 ∧ (y + 1) * w = y * w + w ∧ y * w + w ≤ n := by
  rw [Nat.add_mul, Nat.one_mul] at hn ⊢; omega
end Go.Proofs.Ytjkkcejoniadpaa.Model
namespace Go.Proofs.Ytjkkcejoniadpaa.PureFnExactGrowDug
open Go.RowKit Go.Proofs.Ytjkkcejoniadpaa.PFnExactGrowDug Go.Proofs.YtjkkcejoniadpaaW.PrintWords Go.Proofs.YtjkkcejoniadpaaW.PrintLast Go.Proofs.YtjkkcejoniadpaaW.PrintMore Go.Proofs.Ytjkkcejoniadpaa.Kit Go.Proofs.Ytjkkcejoniadpaa.Model
theorem laws_szIntS_eq (l : List Int) (a : Int) (h0 : 0 ≤ a) (ha : a ≤ 1048576) (hn : l.length ≤ 9223372036854775807) : laws_szIntS.f l a = some (if a < l.length then -1 else a - l.length) := by
  simp only [laws_szIntS.f]
  rw [wrap_id (by omega) (by omega)]
  split
  · rw [if_pos (by omega)]
  · rw [if_neg (by omega)]
theorem laws_szBench_eq (x y : Int) (l : List Int) (a : Int) (h0 : 0 ≤ a) (ha : a ≤ 1048576) (hn : l.length ≤ 9223372036854775807) : laws_szBench.f x y l a = some (if a < l.length then -1 else a - l.length) := by
  simp only [laws_szBench.f, laws_szIntS_eq l a h0 ha hn, Option.bind_some]
  by_cases h : a < l.length
  · rw [if_pos h, if_pos (by omega)]
  · rw [if_neg h, if_neg (by omega)]
theorem laws_toIntS_l0 (l : List Int) (hn : l.length ≤ 9223372036854775807) : ∀ (ys : List Int) (i : Nat) (x : List Int), l.drop i = ys → x.length = l.length → x.take i = l.take i → Ev (fun k => laws_toIntS.l0 k l x i) l
  | [], i, x, h, hl, ht => Ev.next0 fun k => by
      have h0 := drop_nil h
      have h1 : l.length = l.length := by simp
      simp only [laws_toIntS.l0]
      rw [if_neg (by omega), copy_end hl ht (by omega)]
  | y :: ys, i, x, h, hl, ht => by
      obtain ⟨h1, h2, h3⟩ := drop_cons h
      have hm : l.length = l.length := by simp
      have hg : l[i]? = some y := by simp [h2]
      obtain ⟨c1, c2⟩ := copy_step hg hl ht
      refine Ev.next1 (laws_toIntS_l0 l hn ys (i + 1) (x.set i y) h3 c1 c2) fun k hk => ?_
      have e := rd_drop h
      simp only [laws_toIntS.l0, e, Option.bind_some]
      rw [if_pos (by omega), if_pos (by omega), if_pos (by omega), wrap_succ h1 hn, toNat_cast]
      exact hk
theorem laws_toIntS_ev (l : List Int) (hn : l.length ≤ 35184372088832) : Ev (fun k => laws_toIntS.f k l) l :=
  Ev.of1 (laws_toIntS_l0 l (by omega) l 0 (List.replicate ((l.length : Int)).toNat 0) rfl (by simp) rfl) fun k hk => by
    simp only [laws_toIntS.f]
    rw [if_pos (by omega), if_pos (by omega)]
    exact hk
theorem laws_toBench_ev (x y : Int) (l : List Int) (hn : l.length ≤ 1048576) : Ev (fun k => laws_toBench.f k x y l) (x, y, l) :=
  Ev.of1 (laws_toIntS_ev l (by omega)) fun k hk => by simp only [laws_toBench.f, hk, Option.bind_some]
theorem laws_toBoolS_l0 (l : List Bool) (hn : l.length ≤ 9223372036854775807) : ∀ (ys : List Bool) (i : Nat) (x : List Bool), l.drop i = ys → x.length = l.length → x.take i = l.take i → Ev (fun k => laws_toBoolS.l0 k l x i) l
  | [], i, x, h, hl, ht => Ev.next0 fun k => by
      have h0 := drop_nil h
      have h1 : l.length = l.length := by simp
      simp only [laws_toBoolS.l0]
      rw [if_neg (by omega), copy_end hl ht (by omega)]
  | y :: ys, i, x, h, hl, ht => by
      obtain ⟨h1, h2, h3⟩ := drop_cons h
      have hm : l.length = l.length := by simp
      have hg : l[i]? = some y := by simp [h2]
      obtain ⟨c1, c2⟩ := copy_step hg hl ht
      refine Ev.next1 (laws_toBoolS_l0 l hn ys (i + 1) (x.set i y) h3 c1 c2) fun k hk => ?_
      have e := rdOf_drop (d := false) h
      simp only [laws_toBoolS.l0, e, Option.bind_some]
      rw [if_pos (by omega), if_pos (by omega), if_pos (by omega), wrap_succ h1 hn, toNat_cast]
      exact hk
theorem laws_toBoolS_ev (l : List Bool) (hn : l.length ≤ 281474976710656) : Ev (fun k => laws_toBoolS.f k l) l :=
  Ev.of1 (laws_toBoolS_l0 l (by omega) l 0 (List.replicate ((l.length : Int)).toNat false) rfl (by simp) rfl) fun k hk => by
    simp only [laws_toBoolS.f]
    rw [if_pos (by omega), if_pos (by omega)]
    exact hk
theorem laws_eqBoolS_l0 (l : List Bool) (hn : l.length ≤ 9223372036854775807) : ∀ (ys : List Bool) (i : Nat), l.drop i = ys → Ev (fun k => laws_eqBoolS.l0 k l l i) true
  | [], i, h => Ev.next0 fun k => by
      have h0 := drop_nil h
      simp only [laws_eqBoolS.l0]
      rw [if_neg (by omega)]
  | y :: ys, i, h => by
      obtain ⟨h1, h2, h3⟩ := drop_cons h
      refine Ev.next1 (laws_eqBoolS_l0 l hn ys (i + 1) h3) fun k hk => ?_
      have e := rdOf_drop (d := false) h
      simp only [laws_eqBoolS.l0, e]
      rw [if_pos (by omega), if_pos (by omega), if_pos (by omega), if_neg (by simp), wrap_succ h1 hn]
      exact hk
theorem laws_eqBoolS_ev (l : List Bool) (hn : l.length ≤ 9223372036854775807) : Ev (fun k => laws_eqBoolS.f k l l) true :=
  Ev.of1 (laws_eqBoolS_l0 l hn l 0 rfl) fun k hk => by
    simp only [laws_eqBoolS.f]
    rw [if_pos (by simp)]
    exact hk
theorem laws_eqIntS_l0 (l : List Int) (hn : l.length ≤ 9223372036854775807) : ∀ (ys : List Int) (i : Nat), l.drop i = ys → Ev (fun k => laws_eqIntS.l0 k l l i) true
  | [], i, h => Ev.next0 fun k => by
      have h0 := drop_nil h
      simp only [laws_eqIntS.l0]
      rw [if_neg (by omega)]
  | y :: ys, i, h => by
      obtain ⟨h1, h2, h3⟩ := drop_cons h
      refine Ev.next1 (laws_eqIntS_l0 l hn ys (i + 1) h3) fun k hk => ?_
      have e := rd_drop h
      simp only [laws_eqIntS.l0, e]
      rw [if_pos (by omega), if_pos (by omega), if_pos (by omega), if_pos (by simp), wrap_succ h1 hn]
      exact hk
theorem laws_eqIntS_ev (l : List Int) (hn : l.length ≤ 9223372036854775807) : Ev (fun k => laws_eqIntS.f k l l) true :=
  Ev.of1 (laws_eqIntS_l0 l hn l 0 rfl) fun k hk => by
    simp only [laws_eqIntS.f]
    rw [if_pos (by simp)]
    exact hk
theorem laws_eqBench_ev (x y : Int) (l : List Int) (hn : l.length ≤ 1048576) : Ev (fun k => laws_eqBench.f k x y l x y l) true :=
  Ev.of1 (laws_eqIntS_ev l (by omega)) fun k hk => by simp [laws_eqBench.f, hk]
theorem laws_markIntS_l0 (n : Nat) (c : Int) (hc : 0 ≤ c) (hb : c + n ≤ 9223372036854775807) : ∀ (d i : Nat) (x : List Int), i + d = n → x.length = n → x.take i = (markI n c).take i → Ev (fun k => laws_markIntS.l0 k x (c + (i : Int)) i) (c + (n : Int), markI n c)
  | 0, i, x, hd, hl, ht => Ev.next0 fun k => by
      simp only [laws_markIntS.l0]
      rw [if_neg (by omega), copy_end (by rw [hl, markI_length]) ht (by rw [markI_length]; omega), show i = n by omega]
  | d + 1, i, x, hd, hl, ht => by
      obtain ⟨c1, c2⟩ := copy_step (markI_get n c i (by omega)) (by rw [hl, markI_length]) ht
      refine Ev.next1 (laws_markIntS_l0 n c hc hb d (i + 1) _ (by omega) (by rw [c1, markI_length]) c2) fun k hk => ?_
      simp only [laws_markIntS.l0]
      rw [if_pos (by omega), if_pos (by omega), wrap_succ (n := n) (by omega) (by omega), wrap_id (by omega) (by omega), toNat_cast, show c + (i : Int) + 1 = c + ((i + 1 : Nat) : Int) by push_cast; omega]
      exact hk
theorem laws_markIntS_ev (x : List Int) (c : Int) (hc : 0 ≤ c) (hb : c + x.length ≤ 9223372036854775807) : Ev (fun k => laws_markIntS.f k x c) (c + (x.length : Int), markI x.length c) :=
  Ev.of1 (laws_markIntS_l0 x.length c hc hb x.length 0 x (by omega) rfl rfl) fun k hk => by
    simp only [laws_markIntS.f]
    rw [show c + ((0 : Nat) : Int) = c by omega] at hk
    exact hk
theorem laws_markBench_ev (a b : Int) (x : List Int) (c : Int) (hc : 0 ≤ c) (hb : c + x.length ≤ 9223372036854775807) : Ev (fun k => laws_markBench.f k a b x c) (c + (x.length : Int), markI x.length c) :=
  Ev.of1 (laws_markIntS_ev x c hc hb) fun k hk => by simp only [laws_markBench.f, hk, Option.bind_some]
theorem laws_markBoolS_l0 (n : Nat) (c : Int) (hc : 0 ≤ c) (hb : c + n ≤ 9223372036854775807) : ∀ (d i : Nat) (x : List Bool), i + d = n → x.length = n → x.take i = (markB n c).take i → Ev (fun k => laws_markBoolS.l0 k x (c + (i : Int)) i) (c + (n : Int), markB n c)
  | 0, i, x, hd, hl, ht => Ev.next0 fun k => by
      simp only [laws_markBoolS.l0]
      rw [if_neg (by omega), copy_end (by rw [hl, markB_length]) ht (by rw [markB_length]; omega), show i = n by omega]
  | d + 1, i, x, hd, hl, ht => by
      obtain ⟨c1, c2⟩ := copy_step (markB_get n c i (by omega)) (by rw [hl, markB_length]) ht
      refine Ev.next1 (laws_markBoolS_l0 n c hc hb d (i + 1) _ (by omega) (by rw [c1, markB_length]) c2) fun k hk => ?_
      simp only [laws_markBoolS.l0]
      rw [if_pos (by omega), if_pos (by omega), wrap_succ (n := n) (by omega) (by omega), wrap_id (by omega) (by omega), toNat_cast, show c + (i : Int) + 1 = c + ((i + 1 : Nat) : Int) by push_cast; omega]
      exact hk
theorem laws_markBoolS_ev (x : List Bool) (c : Int) (hc : 0 ≤ c) (hb : c + x.length ≤ 9223372036854775807) : Ev (fun k => laws_markBoolS.f k x c) (c + (x.length : Int), markB x.length c) :=
  Ev.of1 (laws_markBoolS_l0 x.length c hc hb x.length 0 x (by omega) rfl rfl) fun k hk => by
    simp only [laws_markBoolS.f]
    rw [show c + ((0 : Nat) : Int) = c by omega] at hk
    exact hk
theorem laws_heldBoolS_l0 (n : Nat) (c : Int) (hc : 0 ≤ c) (hb : c + n ≤ 9223372036854775807) : ∀ (d i : Nat), i + d = n → Ev (fun k => laws_heldBoolS.l0 k (markB n c) (c + (i : Int)) i) (c + (n : Int))
  | 0, i, hd => Ev.next0 fun k => by
      simp only [laws_heldBoolS.l0]
      rw [if_neg (by rw [markB_length]; omega), show i = n by omega]
  | d + 1, i, hd => by
      refine Ev.next1 (laws_heldBoolS_l0 n c hc hb d (i + 1) (by omega)) fun k hk => ?_
      have e := rdOf_get (d := false) (markB_get n c i (by omega))
      simp only [laws_heldBoolS.l0, e]
      rw [if_pos (by rw [markB_length]; omega), if_pos (by omega), if_neg (by simp), wrap_succ (n := n) (by omega) (by omega), wrap_id (by omega) (by omega), show c + (i : Int) + 1 = c + ((i + 1 : Nat) : Int) by push_cast; omega]
      exact hk
theorem laws_heldBoolS_ev (n : Nat) (c : Int) (hc : 0 ≤ c) (hb : c + n ≤ 9223372036854775807) : Ev (fun k => laws_heldBoolS.f k (markB n c) c) (c + (n : Int)) :=
  Ev.of1 (laws_heldBoolS_l0 n c hc hb n 0 (by omega)) fun k hk => by
    simp only [laws_heldBoolS.f]
    rw [show c + ((0 : Nat) : Int) = c by omega] at hk
    exact hk
theorem spec_l1In_eq (a lo hi : Int) : spec_l1In.f a lo hi = some (decide (lo ≤ a ∧ a ≤ hi)) := by
  unfold spec_l1In.f
  split
  · congr 1; simp; omega
  · congr 1; simp; omega
theorem spec_l1All_l0 (lo hi : Int) (l : List Int) (hn : l.length ≤ 9223372036854775807) : ∀ (ys : List Int) (i : Nat), l.drop i = ys → Ev (fun k => spec_l1All.l0 k lo hi l (l.length : Int) i) (allIn lo hi ys)
  | [], i, h => Ev.next0 fun k => by
      have h0 := drop_nil h
      simp only [spec_l1All.l0, allIn]
      rw [if_neg (by omega)]
  | y :: ys, i, h => by
      obtain ⟨h1, h2, h3⟩ := drop_cons h
      refine Ev.next1 (spec_l1All_l0 lo hi l hn ys (i + 1) h3) fun k hk => ?_
      have e := rd_drop h
      simp only [spec_l1All.l0, e, spec_l1In_eq, Option.bind_some]
      rw [if_pos (by omega), if_pos (by omega), if_pos (by omega), wrap_succ h1 hn]
      by_cases hy : lo ≤ y ∧ y ≤ hi
      · rw [if_pos (decide_eq_true hy), hk]; simp [allIn, hy]
      · rw [if_neg (by simp; omega)]; simp [allIn, hy]
theorem spec_l1All_ev (l : List Int) (lo hi : Int) (hn : l.length ≤ 9223372036854775807) : Ev (fun k => spec_l1All.f k l lo hi) (allIn lo hi l) :=
  Ev.of1 (spec_l1All_l0 lo hi l hn l 0 rfl) fun k hk => by simp only [spec_l1All.f]; exact hk
theorem spec_dgGood_ev (x y : Int) (l : List Int) (hn : l.length ≤ 9223372036854775807) : Ev (fun k => spec_dgGood.f k x y l) (benchOk x y l) := by
  refine Ev.of1 (spec_l1All_ev l (-1000000) 1000000 hn) fun k hk => ?_
  simp only [spec_dgGood.f, spec_l1In_eq, hk, Option.bind_some, benchOk, decide_eq_true_eq]
  by_cases hx : 1 ≤ x ∧ x ≤ 8
  · rw [if_pos hx]
    by_cases hy : 1 ≤ y ∧ y ≤ 6
    · have hp := bench_prod hx hy
      rw [if_pos hy, wrap_id (by omega) (by omega)]
      by_cases hl : (l.length : Int) = x * y
      · rw [if_pos hl]; congr 1; simp [hx, hy, hl]
      · rw [if_neg hl]; congr 1; symm; simp [hl]
    · rw [if_neg hy]; congr 1; symm; simp; omega
  · rw [if_neg hx]; congr 1; symm; simp; omega
theorem spec_dgBoth_ev (x y : Int) (l : List Int) (d : List Bool) (hn : l.length ≤ 9223372036854775807) : Ev (fun k => spec_dgBoth.f k x y l d) (benchOk x y l && decide (d.length = l.length)) :=
  Ev.of1 (spec_dgGood_ev x y l hn) fun k hk => by
    simp only [spec_dgBoth.f, hk, Option.bind_some]
    by_cases h : benchOk x y l = true
    · rw [if_pos h, h]; congr 1; simp only [Bool.true_and]; rw [Bool.eq_iff_iff]; simp; omega
    · rw [if_neg h]; simp [h]
/-- The four sides of cell i; -1: none. -/
def sidesOf (w h i : Int) : List Int := [if i / w + 1 < h then i + w else -1, if i % w + 1 < w then i + 1 else -1, if i / w > 0 then i - w else -1, if i % w > 0 then i - 1 else -1]
/-- The cells beside cell i. -/
def besideOf (w h i : Int) : List Int := (if i / w > 0 then [i - w] else []) ++ ((if i % w > 0 then [i - 1] else []) ++ ((if i % w + 1 < w then [i + 1] else []) ++ (if i / w + 1 < h then [i + w] else [])))
theorem cells_bd {w h i : Int} (hw : 1 ≤ w ∧ w ≤ 8) (hh : 1 ≤ h ∧ h ≤ 6) (hi : 0 ≤ i ∧ i < w * h) :
    (i / w > 0 → 0 ≤ i - w) ∧ (i % w > 0 → 0 ≤ i - 1) ∧ (i % w + 1 < w → i + 1 < w * h) ∧ (i / w + 1 < h → i + w < w * h) ∧ (0 ≤ i / w ∧ i / w ≤ 48) ∧ (0 ≤ i % w ∧ i % w < 8) ∧ w * h ≤ 48 := by
  rcases (by omega : w = 1 ∨ w = 2 ∨ w = 3 ∨ w = 4 ∨ w = 5 ∨ w = 6 ∨ w = 7 ∨ w = 8) with rfl | rfl | rfl | rfl | rfl | rfl | rfl | rfl <;> omega
theorem beside_mem {w h i : Int} (hw : 1 ≤ w ∧ w ≤ 8) (hh : 1 ≤ h ∧ h ≤ 6) (hi : 0 ≤ i ∧ i < w * h) : ∀ c ∈ besideOf w h i, 0 ≤ c ∧ c < w * h := by
  have hb := cells_bd hw hh hi
  intro c hc
  unfold besideOf at hc
  generalize w * h = n at *
  generalize i / w = a at *
  generalize i % w = b at *
  simp only [List.mem_append] at hc
  rcases hc with hc | hc | hc | hc
  · split at hc <;> simp at hc; omega
  · split at hc <;> simp at hc; omega
  · split at hc <;> simp at hc; omega
  · split at hc <;> simp at hc; omega
theorem beside_length (w h i : Int) : (besideOf w h i).length ≤ 4 := by
  unfold besideOf
  repeat' split
  all_goals simp
theorem sides_mem {w h i : Int} (hw : 1 ≤ w ∧ w ≤ 8) (hh : 1 ≤ h ∧ h ≤ 6) (hi : 0 ≤ i ∧ i < w * h) : ∀ c ∈ sidesOf w h i, c < w * h := by
  have hb := cells_bd hw hh hi
  intro c hc
  unfold sidesOf at hc
  generalize w * h = n at *
  generalize i / w = a at *
  generalize i % w = b at *
  simp only [List.mem_cons, List.not_mem_nil, or_false] at hc
  rcases hc with rfl | rfl | rfl | rfl <;> split <;> omega
theorem sides_beside_mem {w h i : Int} (hw : 1 ≤ w ∧ w ≤ 8) (hh : 1 ≤ h ∧ h ≤ 6) (hi : 0 ≤ i ∧ i < w * h) (t : Int) : t ∈ besideOf w h i ↔ t ∈ sidesOf w h i ∧ 0 ≤ t := by
  have hb := cells_bd hw hh hi
  unfold sidesOf besideOf
  generalize w * h = m at *
  generalize i / w = a at *
  generalize i % w = b at *
  by_cases c1 : a + 1 < h <;> by_cases c2 : b + 1 < w <;> by_cases c3 : a > 0 <;> by_cases c4 : b > 0 <;> simp only [c1, c2, c3, c4, if_true, if_false, List.mem_append, List.mem_cons, List.not_mem_nil, or_false, false_or] <;> constructor <;> intro q <;> first | omega | exact q.elim
-- needs: cells
theorem spec_dgSides_ev (w h : Int) (v : List Int) (i : Int) (hw : 1 ≤ w ∧ w ≤ 8) (hh : 1 ≤ h ∧ h ≤ 6) (hi : 0 ≤ i ∧ i < w * h) : Ev (fun k => spec_dgSides.f k w h v i) (sidesOf w h i) := by
  have hb := cells_bd hw hh hi
  have e1 : Int.tdiv i w = i / w := Int.tdiv_eq_ediv_of_nonneg hi.1
  have e2 : Int.tmod i w = i % w := Int.tmod_eq_emod_of_nonneg hi.1
  refine ⟨2, fun n hn => ?_⟩
  obtain ⟨k, rfl⟩ : ∃ k, n = k + 2 := ⟨n - 2, by omega⟩
  simp only [spec_dgSides.f, spec_dgSides.j0, spec_dgSides.j1, e1, e2, sidesOf, Option.bind_some]
  generalize w * h = m at *
  generalize i / w = a at *
  generalize i % w = b at *
  have f1 : wrap64 a = a := wrap_id (by omega) (by omega)
  have f2 : wrap64 (a + 1) = a + 1 := wrap_id (by omega) (by omega)
  have f3 : wrap64 (b + 1) = b + 1 := wrap_id (by omega) (by omega)
  have f4 : wrap64 (i + w) = i + w := wrap_id (by omega) (by omega)
  have f5 : wrap64 (i + 1) = i + 1 := wrap_id (by omega) (by omega)
  have f6 : wrap64 (i - w) = i - w := wrap_id (by omega) (by omega)
  have f7 : wrap64 (i - 1) = i - 1 := wrap_id (by omega) (by omega)
  have f0 : ¬ w = 0 := by omega
  simp only [f1, f2, f3, f4, f5, f6, f7, if_neg f0]
  by_cases c1 : a + 1 < h <;> by_cases c2 : b + 1 < w <;> by_cases c3 : a > 0 <;> by_cases c4 : b > 0 <;> simp [c1, c2, c3, c4]
def shr (d : List Bool) : Bool → List Int → Bool
  | b, [] => b
  | b, s :: ss => shr d (if b = true then (if s < 0 then true else rdOf false d s) else false) ss
def gro (d : List Bool) : Bool → List Int → Bool
  | b, [] => b
  | b, s :: ss => gro d (if b = true then true else (if s ≥ 0 then rdOf false d s else false)) ss
theorem shr_iff (d : List Bool) : ∀ (ss : List Int) (b : Bool), shr d b ss = true ↔ b = true ∧ ∀ s ∈ ss, 0 ≤ s → rdOf false d s = true
  | [], b => by simp [shr]
  | s :: ss, b => by
    simp only [shr]
    rw [shr_iff d ss]
    cases b with
    | false => simp
    | true =>
      simp only [if_true]
      by_cases hs : s < 0
      · rw [if_pos hs]; simp; intro _ h; omega
      · rw [if_neg hs]
        constructor
        · rintro ⟨h1, h2⟩; exact ⟨by trivial, fun x hx h0 => by
            rcases List.mem_cons.1 hx with rfl | hx
            · exact h1
            · exact h2 x hx h0⟩
        · rintro ⟨_, h2⟩; exact ⟨h2 s (by simp) (by omega), fun x hx h0 => h2 x (by simp [hx]) h0⟩
theorem gro_iff (d : List Bool) : ∀ (ss : List Int) (b : Bool), gro d b ss = true ↔ b = true ∨ ∃ s ∈ ss, 0 ≤ s ∧ rdOf false d s = true
  | [], b => by simp [gro]
  | s :: ss, b => by
    simp only [gro]
    rw [gro_iff d ss]
    cases b with
    | true => simp
    | false =>
      simp only [Bool.false_eq_true, if_false, false_or, List.mem_cons]
      by_cases hs : s ≥ 0
      · rw [if_pos hs]
        constructor
        · rintro (h | ⟨t, ht, h⟩)
          · exact ⟨s, Or.inl rfl, hs, h⟩
          · exact ⟨t, Or.inr ht, h⟩
        · rintro ⟨t, rfl | ht, h⟩
          · exact Or.inl h.2
          · exact Or.inr ⟨t, ht, h⟩
      · rw [if_neg hs]
        constructor
        · rintro (h | ⟨t, ht, h⟩)
          · cases h
          · exact ⟨t, Or.inr ht, h⟩
        · rintro ⟨t, rfl | ht, h⟩
          · exact absurd h.1 hs
          · exact Or.inr ⟨t, ht, h⟩
def cellsOf (f : Bool → List Int → Bool) (w h : Int) : List Bool → Nat → List Bool
  | [], _ => []
  | b :: bs, i => f b (sidesOf w h (i : Int)) :: cellsOf f w h bs (i + 1)
theorem cellsOf_length (f : Bool → List Int → Bool) (w h : Int) : ∀ (bs : List Bool) (i : Nat), (cellsOf f w h bs i).length = bs.length
  | [], _ => rfl
  | b :: bs, i => by simp [cellsOf, cellsOf_length f w h bs (i + 1)]
theorem cellsOf_get (f : Bool → List Int → Bool) (w h : Int) : ∀ (bs : List Bool) (i j : Nat), (cellsOf f w h bs i)[j]? = bs[j]?.map (fun b => f b (sidesOf w h ((i + j : Nat) : Int)))
  | [], _, j => by simp [cellsOf]
  | b :: bs, i, 0 => by simp [cellsOf]
  | b :: bs, i, j + 1 => by
    simp only [cellsOf, List.getElem?_cons_succ]
    rw [cellsOf_get f w h bs (i + 1) j, show i + 1 + j = i + (j + 1) by omega]
def cellsRes (f : List Bool → Bool → List Int → Bool) (x y : Int) (l : List Int) (d : List Bool) : List Bool × Bool := if benchOk x y l = true ∧ d.length = l.length then (cellsOf (f d) x y d 0, true) else ([], false)
theorem cellsRes_len (f : List Bool → Bool → List Int → Bool) (x y : Int) (l : List Int) (d : List Bool) : (cellsRes f x y l d).1.length ≤ 1000 := by
  unfold cellsRes
  split
  · rename_i h
    have := bench_len h.1
    simp only [cellsOf_length]; omega
  · simp
-- needs: spec_dgSides sides_model
theorem spec_GrowDug_l1 (d : List Bool) (w h : Int) (v : List Int) (i : Int) (S : List Int) (hS : S.length ≤ 1000) (acc : List Bool) (hacc : acc.length ≤ 1000) (r : List Bool × Bool) : ∀ (ss : List Int) (j : Nat) (b : Bool), S.drop j = ss → (∀ s ∈ ss, s < (d.length : Int)) →
    Ev (fun k => spec_GrowDug.l0 k d (acc ++ [gro d b ss]) d (d.length : Int) (wrap64 (i + 1)) w h v) r → Ev (fun k => spec_GrowDug.l1 k d acc b d (d.length : Int) i S (S.length : Int) j w h v) r
  | [], j, b, hj, hs, hr => by
      have hz := drop_nil hj
      refine Ev.next1 hr fun k hk => ?_
      simp only [spec_GrowDug.l1]
      rw [if_neg (by omega), if_pos (by omega)]
      exact hk
  | s :: ss, j, b, hj, hs, hr => by
      obtain ⟨j1, j2, j3⟩ := drop_cons hj
      have e1 : rd S j = s := rd_drop hj
      have hs0 := hs s (by simp)
      have hs' : ∀ s ∈ ss, s < (d.length : Int) := fun t ht => hs t (by simp [ht])
      refine Ev.next1 (spec_GrowDug_l1 d w h v i S hS acc hacc r ss (j + 1) _ j3 hs' hr) fun k hk => ?_
      simp only [spec_GrowDug.l1, e1]
      rw [if_pos (by omega), if_pos (by omega), if_pos (by omega), wrap_succ j1 (by omega)]
      cases b with
      | true => simp only [if_true] at hk ⊢; exact hk
      | false =>
        simp only [Bool.false_eq_true, if_false] at hk ⊢
        by_cases hc : s ≥ 0
        · rw [if_pos hc] at hk ⊢
          rw [if_pos (by omega), if_pos hs0]; exact hk
        · rw [if_neg hc] at hk ⊢; exact hk
theorem spec_GrowDug_l0 (d : List Bool) (w h : Int) (v : List Int) (hw : 1 ≤ w ∧ w ≤ 8) (hh : 1 ≤ h ∧ h ≤ 6) (hd : (d.length : Int) = w * h) (hn : d.length ≤ 1000) : ∀ (bs : List Bool) (i : Nat) (acc : List Bool), d.drop i = bs → acc.length ≤ i →
    Ev (fun k => spec_GrowDug.l0 k d acc d (d.length : Int) i w h v) (acc ++ cellsOf (gro d) w h bs i, true)
  | [], i, acc, hi, ha => Ev.next0 fun k => by
      have h0 := drop_nil hi
      simp only [spec_GrowDug.l0, cellsOf, List.append_nil]
      rw [if_neg (by omega)]
  | b :: bs, i, acc, hi, ha => by
      obtain ⟨h1, h2, h3⟩ := drop_cons hi
      have eb := rdOf_drop (d := false) hi
      have hcell : 0 ≤ (i : Int) ∧ (i : Int) < w * h := by omega
      have hsl : (sidesOf w h i).length = 4 := rfl
      have i0 := spec_GrowDug_l0 d w h v hw hh hd hn bs (i + 1) (acc ++ [gro d b (sidesOf w h i)]) h3 (by simp; omega)
      rw [← wrap_succ h1 (by omega)] at i0
      have i1 := spec_GrowDug_l1 d w h v i (sidesOf w h i) (by omega) acc (by omega) _ (sidesOf w h i) 0 b rfl (by rw [hd]; exact sides_mem hw hh hcell) i0
      refine Ev.next2 i1 (spec_dgSides_ev w h v i hw hh hcell) fun k k1 k2 => ?_
      simp only [spec_GrowDug.l0, eb, k2, Option.bind_some]
      rw [if_pos (by omega), if_pos (by omega), if_pos (by omega)]
      refine k1.trans ?_
      rw [List.append_assoc]; rfl
theorem spec_GrowDug_ev (x y : Int) (l : List Int) (d : List Bool) (hn : l.length ≤ 9223372036854775807) : Ev (fun k => spec_GrowDug.f k x y l d) (cellsRes gro x y l d) := by
  by_cases h : benchOk x y l = true ∧ d.length = l.length
  · have hb := bench_len h.1
    refine (ev_and (spec_dgBoth_ev x y l d hn) <| ev_one (spec_GrowDug_l0 d x y l hb.1 hb.2.1 (by omega) (by omega) d 0 [] rfl (by simp))).ev fun k ⟨h1, h2⟩ => ?_
    simp only [spec_GrowDug.f, h1, Option.bind_some]
    rw [if_pos (by simpa using h), cellsRes, if_pos h]
    exact h2
  · refine (ev_one (spec_dgBoth_ev x y l d hn)).ev fun k h1 => ?_
    simp only [spec_GrowDug.f, h1, Option.bind_some]
    rw [if_neg (by simpa using h), cellsRes, if_neg h]
theorem impl_goodValues_l0 (l : List Int) (hn : l.length ≤ 9223372036854775807) : ∀ (ys : List Int) (i : Nat), l.drop i = ys → Ev (fun k => impl_goodValues.l0 k l (l.length : Int) i) (allIn (-1000000) 1000000 ys)
  | [], i, h => Ev.next0 fun k => by
      have h0 := drop_nil h
      simp only [impl_goodValues.l0, allIn]
      rw [if_neg (by omega)]
  | y :: ys, i, h => by
      obtain ⟨h1, h2, h3⟩ := drop_cons h
      refine Ev.next1 (impl_goodValues_l0 l hn ys (i + 1) h3) fun k hk => ?_
      have e := rd_drop h
      simp only [impl_goodValues.l0, e]
      rw [if_pos (by omega), if_pos (by omega), if_pos (by omega), wrap_succ h1 hn]
      by_cases hy : -1000000 ≤ y
      · rw [if_neg (by omega)]
        by_cases hz : y ≤ 1000000
        · rw [if_neg (by omega), hk]; simp [allIn, hy, hz]
        · rw [if_pos (by omega)]; simp [allIn, hz]
      · rw [if_pos (by omega)]; simp [allIn, hy]
theorem impl_goodValues_ev (l : List Int) (hn : l.length ≤ 9223372036854775807) : Ev (fun k => impl_goodValues.f k l) (decide (1 ≤ l.length ∧ l.length ≤ 120) && allIn (-1000000) 1000000 l) := by
  by_cases h : 1 ≤ l.length ∧ l.length ≤ 120
  · have h1 : Ev (fun k => impl_goodValues.j0 k l false) (allIn (-1000000) 1000000 l) := Ev.next1 (impl_goodValues_l0 l hn l 0 rfl) fun k hk => by
      simp only [impl_goodValues.j0]; rw [if_neg (by simp)]; exact hk
    refine Ev.of1 h1 fun k hk => ?_
    have e : decide ((l.length : Int) > 120) = false := by simp; omega
    simp only [impl_goodValues.f]
    rw [if_neg (by omega), e, hk]; simp [h]
  · have h1 : Ev (fun k => impl_goodValues.j0 k l true) false := Ev.next0 fun k => by simp [impl_goodValues.j0]
    refine Ev.of1 h1 fun k hk => ?_
    simp only [impl_goodValues.f]
    by_cases h2 : l.length < 1
    · rw [if_pos (by omega), hk]; simp; omega
    · have e : decide ((l.length : Int) > 120) = true := by simp; omega
      rw [if_neg (by omega), e, hk]; simp; omega
theorem impl_IsBench_ev (x y : Int) (l : List Int) (hn : l.length ≤ 9223372036854775807) : Ev (fun k => impl_IsBench.f k x y l) (benchOk x y l) := by
  refine Ev.of1 (impl_goodValues_ev l hn) fun k hk => ?_
  simp only [impl_IsBench.f, hk, Option.bind_some, benchOk]
  by_cases hx : 1 ≤ x ∧ x ≤ 8
  · rw [if_neg (by omega), if_neg (by omega)]
    by_cases hy : 1 ≤ y ∧ y ≤ 6
    · have hp := bench_prod hx hy
      rw [if_neg (by omega), if_neg (by omega), wrap_id (by omega) (by omega)]
      by_cases hl : (l.length : Int) = x * y
      · rw [if_pos hl]; congr 1
        rw [decide_eq_true (show 1 ≤ l.length ∧ l.length ≤ 120 by omega)]
        simp [hx, hy, hl]
      · rw [if_neg hl]; congr 1; symm; simp [hl]
    · have e : decide (1 ≤ x ∧ x ≤ 8 ∧ 1 ≤ y ∧ y ≤ 6 ∧ (l.length : Int) = x * y) = false := by simp; omega
      rw [e]; split
      · simp
      · rw [if_pos (by omega)]; simp
  · have e : decide (1 ≤ x ∧ x ≤ 8 ∧ 1 ≤ y ∧ y ≤ 6 ∧ (l.length : Int) = x * y) = false := by simp; omega
    rw [e]; split
    · simp
    · rw [if_pos (by omega)]; simp
theorem impl_isDug_ev (x y : Int) (l : List Int) (d : List Bool) (hn : l.length ≤ 9223372036854775807) : Ev (fun k => impl_isDug.f k x y l d) (benchOk x y l && decide (d.length = l.length)) :=
  Ev.of1 (impl_IsBench_ev x y l hn) fun k hk => by
    simp only [impl_isDug.f, hk, Option.bind_some]
    by_cases h : benchOk x y l = true
    · rw [if_pos h, h]; congr 1; simp only [Bool.true_and]; rw [Bool.eq_iff_iff]; simp; omega
    · rw [if_neg h]; simp [h]
-- needs: cells
theorem impl_cellsBeside_ev (w h : Int) (v : List Int) (i : Int) (hw : 1 ≤ w ∧ w ≤ 8) (hh : 1 ≤ h ∧ h ≤ 6) (hi : 0 ≤ i ∧ i < w * h) : Ev (fun k => impl_cellsBeside.f k w h v i) (besideOf w h i) := by
  have hb := cells_bd hw hh hi
  have e1 : Int.tdiv i w = i / w := Int.tdiv_eq_ediv_of_nonneg hi.1
  have e2 : Int.tmod i w = i % w := Int.tmod_eq_emod_of_nonneg hi.1
  refine ⟨2, fun n hn => ?_⟩
  obtain ⟨k, rfl⟩ : ∃ k, n = k + 2 := ⟨n - 2, by omega⟩
  simp only [impl_cellsBeside.f, impl_cellsBeside.j0, impl_cellsBeside.j1, e1, e2, besideOf, Option.bind_some]
  generalize w * h = m at *
  generalize i / w = a at *
  generalize i % w = b at *
  have f1 : wrap64 a = a := wrap_id (by omega) (by omega)
  have f2 : wrap64 (a + 1) = a + 1 := wrap_id (by omega) (by omega)
  have f3 : wrap64 (b + 1) = b + 1 := wrap_id (by omega) (by omega)
  have f4 : wrap64 (i + w) = i + w := wrap_id (by omega) (by omega)
  have f5 : wrap64 (i + 1) = i + 1 := wrap_id (by omega) (by omega)
  have f6 : wrap64 (i - w) = i - w := wrap_id (by omega) (by omega)
  have f7 : wrap64 (i - 1) = i - 1 := wrap_id (by omega) (by omega)
  have f0 : ¬ w = 0 := by omega
  simp only [f1, f2, f3, f4, f5, f6, f7, if_neg f0]
  by_cases c1 : a + 1 < h <;> by_cases c2 : b + 1 < w <;> by_cases c3 : a > 0 <;> by_cases c4 : b > 0 <;> simp [c1, c2, c3, c4]
/-- The indices of what is marked, from i on. -/
def marked : List Bool → Nat → List Int
  | [], _ => []
  | b :: bs, i => if b = true then (i : Int) :: marked bs (i + 1) else marked bs (i + 1)
theorem marked_mem : ∀ {bs : List Bool} {i : Nat} {x : Int}, x ∈ marked bs i → ∃ j : Nat, x = (j : Int) ∧ i ≤ j ∧ j < i + bs.length ∧ bs[j - i]? = some true
  | b :: bs, i, x, h => by
    simp only [marked] at h
    have tail : x ∈ marked bs (i + 1) → ∃ j : Nat, x = (j : Int) ∧ i ≤ j ∧ j < i + (b :: bs).length ∧ (b :: bs)[j - i]? = some true := fun h => by
      obtain ⟨j, e, h1, h2, h3⟩ := marked_mem h
      refine ⟨j, e, by omega, by simp; omega, ?_⟩
      rw [show j - i = (j - (i + 1)) + 1 by omega, List.getElem?_cons_succ]; exact h3
    split at h
    · rename_i hb
      rcases List.mem_cons.1 h with rfl | h
      · exact ⟨i, rfl, by omega, by simp, by simp [hb]⟩
      · exact tail h
    · exact tail h
theorem marked_length : ∀ (bs : List Bool) (i : Nat), (marked bs i).length ≤ bs.length
  | [], _ => by simp [marked]
  | b :: bs, i => by simp only [marked]; have := marked_length bs (i + 1); split <;> simp <;> omega
theorem impl_listOf_l0 (d : List Bool) (hn : d.length ≤ 1048576) : ∀ (bs : List Bool) (i : Nat) (a : List Int), d.drop i = bs → a.length ≤ i → Ev (fun k => impl_listOf.l0 k a d (d.length : Int) i) (a ++ marked bs i)
  | [], i, a, h, ha => Ev.next0 fun k => by
      have h0 := drop_nil h
      simp only [impl_listOf.l0, marked, List.append_nil]
      rw [if_neg (by omega)]
  | b :: bs, i, a, h, ha => by
      obtain ⟨h1, h2, h3⟩ := drop_cons h
      have e2 := rdOf_drop (d := false) h
      cases b with
      | true =>
        refine Ev.next1 (impl_listOf_l0 d hn bs (i + 1) (a ++ [(i : Int)]) h3 (by simp; omega)) fun k hk => ?_
        simp only [impl_listOf.l0, e2, marked]
        rw [if_pos (by omega), if_pos (by omega), if_pos (by omega), if_pos (by simp), if_pos (by omega), wrap_succ h1 (by omega), if_pos (by simp)]
        rw [List.append_assoc] at hk; exact hk
      | false =>
        refine Ev.next1 (impl_listOf_l0 d hn bs (i + 1) a h3 (by omega)) fun k hk => ?_
        simp only [impl_listOf.l0, e2, marked]
        rw [if_pos (by omega), if_pos (by omega), if_pos (by omega), if_neg (by simp), wrap_succ h1 (by omega), if_neg (by simp)]
        exact hk
theorem impl_listOf_ev (d : List Bool) (hn : d.length ≤ 1048576) : Ev (fun k => impl_listOf.f k d) (marked d 0) :=
  Ev.of1 (impl_listOf_l0 d hn d 0 [] rfl (by simp)) fun k hk => by simp only [impl_listOf.f]; exact hk
-- needs: spec_GrowDug
theorem beside_iff {w h i : Int} (t : Int) : t ∈ besideOf w h i ↔ (i / w > 0 ∧ t = i - w) ∨ (i % w > 0 ∧ t = i - 1) ∨ (i % w + 1 < w ∧ t = i + 1) ∨ (i / w + 1 < h ∧ t = i + w) := by
  unfold besideOf
  by_cases c1 : i / w + 1 < h <;> by_cases c2 : i % w + 1 < w <;> by_cases c3 : i / w > 0 <;> by_cases c4 : i % w > 0 <;> simp [c1, c2, c3, c4]
theorem beside_sym {w h i j : Int} (hw : 1 ≤ w ∧ w ≤ 8) (hi : 0 ≤ i ∧ i < w * h) (hj : 0 ≤ j ∧ j < w * h) (hm : j ∈ besideOf w h i) : i ∈ besideOf w h j := by
  rw [beside_iff] at hm ⊢
  rcases (by omega : w = 1 ∨ w = 2 ∨ w = 3 ∨ w = 4 ∨ w = 5 ∨ w = 6 ∨ w = 7 ∨ w = 8) with rfl | rfl | rfl | rfl | rfl | rfl | rfl | rfl <;> omega
theorem rdOf_set_at (s : List Bool) (t c : Int) (h0 : 0 ≤ t) (h1 : t < s.length) (hc : 0 ≤ c) : rdOf false (s.set t.toNat true) c = true ↔ c = t ∨ rdOf false s c = true := by
  show (s.set t.toNat true).getD c.toNat false = true ↔ c = t ∨ s.getD c.toNat false = true
  by_cases e : c = t
  · subst e
    rw [List.getD_eq_getElem?_getD, List.getElem?_set_self (by omega)]; simp
  · rw [List.getD_eq_getElem?_getD, List.getElem?_set_ne (by omega), ← List.getD_eq_getElem?_getD]; simp [e]
theorem impl_GrowDug_l1 (w h : Int) (v : List Int) (I : List Int) (i : Int) (T : List Int) (hT : T.length ≤ 1000) (n : Nat) (P : Int → Prop) (Q : List Bool × Bool → Prop)
    (next : ∀ s : List Bool, s.length = n → (∀ c, 0 ≤ c → (rdOf false s c = true ↔ P c ∨ c ∈ T)) → ∃ r, Q r ∧ Ev (fun k => impl_GrowDug.l0 k s I (I.length : Int) (wrap64 (i + 1)) w h v) r) :
    ∀ (ts pre : List Int) (j : Nat) (s : List Bool), pre ++ ts = T → T.drop j = ts → (∀ t ∈ ts, 0 ≤ t ∧ t < (n : Int)) → s.length = n → (∀ c, 0 ≤ c → (rdOf false s c = true ↔ P c ∨ c ∈ pre)) →
      ∃ r, Q r ∧ Ev (fun k => impl_GrowDug.l1 k s I (I.length : Int) i T (T.length : Int) j w h v) r
  | [], pre, j, s, hp, hj, ht, hs, hP => by
      have hz := drop_nil hj
      rw [List.append_nil] at hp
      obtain ⟨r, q, hr⟩ := next s hs (hp ▸ hP)
      refine ⟨r, q, Ev.next1 hr fun k hk => ?_⟩
      simp only [impl_GrowDug.l1]
      rw [if_neg (by omega)]; exact hk
  | t :: ts, pre, j, s, hp, hj, ht, hs, hP => by
      obtain ⟨j1, j2, j3⟩ := drop_cons hj
      have e1 := rd_drop hj
      have h0 := ht t (by simp)
      obtain ⟨r, q, hr⟩ := impl_GrowDug_l1 w h v I i T hT n P Q next ts (pre ++ [t]) (j + 1) (s.set t.toNat true) (by rw [List.append_assoc]; exact hp) j3 (fun u hu => ht u (by simp [hu])) (by simpa using hs) (fun c hc => by
        rw [rdOf_set_at s t c h0.1 (by omega) hc, hP c hc]
        simp only [List.mem_append, List.mem_cons, List.not_mem_nil, or_false]
        constructor
        · rintro (q | q | q)
          · exact Or.inr (Or.inr q)
          · exact Or.inl q
          · exact Or.inr (Or.inl q)
        · rintro (q | q | q)
          · exact Or.inr (Or.inl q)
          · exact Or.inr (Or.inr q)
          · exact Or.inl q)
      refine ⟨r, q, Ev.next1 hr fun k hk => ?_⟩
      simp only [impl_GrowDug.l1, e1]
      rw [if_pos (by omega), if_pos (by omega), if_pos (by omega), if_pos h0.1, if_pos (by omega), wrap_succ j1 (by omega)]
      exact hk
theorem impl_GrowDug_l0 (d : List Bool) (w h : Int) (v : List Int) (hw : 1 ≤ w ∧ w ≤ 8) (hh : 1 ≤ h ∧ h ≤ 6) (hd : (d.length : Int) = w * h) (hn : d.length ≤ 1000) (I : List Int) (hI : I.length ≤ 1000) : ∀ (bs : List Bool) (i j : Nat) (s : List Bool), d.drop i = bs → I.drop j = marked bs i → s.length = d.length →
    (∀ c, 0 ≤ c → (rdOf false s c = true ↔ rdOf false d c = true ∨ ∃ q : Nat, q < i ∧ q < d.length ∧ rdOf false d (q : Int) = true ∧ c ∈ besideOf w h (q : Int))) →
    ∃ r : List Bool × Bool, (r.2 = true ∧ r.1.length = d.length ∧ ∀ c, 0 ≤ c → (rdOf false r.1 c = true ↔ rdOf false d c = true ∨ ∃ q : Nat, q < d.length ∧ rdOf false d (q : Int) = true ∧ c ∈ besideOf w h (q : Int))) ∧ Ev (fun k => impl_GrowDug.l0 k s I (I.length : Int) j w h v) r
  | [], i, j, s, hi, hj, hs, hP => by
      have h0 := drop_nil hj
      have h1 := drop_nil hi
      refine ⟨(s, true), ⟨rfl, hs, fun c hc => ?_⟩, Ev.next0 fun k => ?_⟩
      · rw [hP c hc]
        constructor
        · rintro (q | ⟨q, q1, q2, q3⟩)
          · exact Or.inl q
          · exact Or.inr ⟨q, q2, q3⟩
        · rintro (q | ⟨q, q2, q3⟩)
          · exact Or.inl q
          · exact Or.inr ⟨q, by omega, q2, q3⟩
      · simp only [impl_GrowDug.l0]
        rw [if_neg (by omega)]
  | b :: bs, i, j, s, hi, hj, hs, hP => by
      obtain ⟨h1, h2, h3⟩ := drop_cons hi
      have eb := rdOf_drop (d := false) hi
      cases b with
      | false =>
        simp only [marked, Bool.false_eq_true, if_false] at hj
        refine impl_GrowDug_l0 d w h v hw hh hd hn I hI bs (i + 1) j s h3 hj hs (fun c hc => ?_)
        rw [hP c hc]
        constructor
        · rintro (q | ⟨q, q1, q2⟩)
          · exact Or.inl q
          · exact Or.inr ⟨q, by omega, q2⟩
        · rintro (q | ⟨q, q1, q2, q3, q4⟩)
          · exact Or.inl q
          · refine Or.inr ⟨q, ?_, q2, q3, q4⟩
            by_cases e : q = i
            · subst e; rw [eb] at q3; cases q3
            · omega
      | true =>
        simp only [marked, if_true] at hj
        obtain ⟨j1, j2, j3⟩ := drop_cons hj
        have e1 : rd I j = (i : Int) := rd_get j2
        have hcell : 0 ≤ (i : Int) ∧ (i : Int) < w * h := by omega
        have hbl := beside_length w h i
        obtain ⟨r, q, hr⟩ := impl_GrowDug_l1 w h v I j (besideOf w h i) (by omega) d.length (fun c => rdOf false d c = true ∨ ∃ q : Nat, q < i ∧ q < d.length ∧ rdOf false d (q : Int) = true ∧ c ∈ besideOf w h (q : Int)) _ (fun s' hs' hP' => by
          have ih := impl_GrowDug_l0 d w h v hw hh hd hn I hI bs (i + 1) (j + 1) s' h3 j3 hs' (fun c hc => by
            rw [hP' c hc]
            constructor
            · rintro ((q | ⟨q, q1, q2⟩) | q)
              · exact Or.inl q
              · exact Or.inr ⟨q, by omega, q2⟩
              · exact Or.inr ⟨i, by omega, h1, eb, q⟩
            · rintro (q | ⟨q, q1, q2, q3, q4⟩)
              · exact Or.inl (Or.inl q)
              · by_cases e : q = i
                · subst e; exact Or.inr q4
                · exact Or.inl (Or.inr ⟨q, by omega, q2, q3, q4⟩))
          rw [← wrap_succ j1 (by omega)] at ih
          exact ih) (besideOf w h i) [] 0 s rfl rfl (by rw [hd]; exact beside_mem hw hh hcell) hs (fun c hc => by rw [hP c hc]; simp)
        refine ⟨r, q, Ev.next2 hr (impl_cellsBeside_ev w h v i hw hh hcell) fun k k1 k2 => ?_⟩
        simp only [impl_GrowDug.l0, e1, k2, Option.bind_some]
        rw [if_pos (by omega), if_pos (by omega), if_pos (by omega)]
        exact k1
theorem grow_eq (d s : List Bool) {w h : Int} (hw : 1 ≤ w ∧ w ≤ 8) (hh : 1 ≤ h ∧ h ≤ 6) (hd : (d.length : Int) = w * h) (hs : s.length = d.length)
    (hP : ∀ c, 0 ≤ c → (rdOf false s c = true ↔ rdOf false d c = true ∨ ∃ q : Nat, q < d.length ∧ rdOf false d (q : Int) = true ∧ c ∈ besideOf w h (q : Int))) : s = cellsOf (gro d) w h d 0 := by
  apply List.ext_getElem?
  intro k
  rw [cellsOf_get, Nat.zero_add]
  by_cases hk : k < d.length
  · have hcell : 0 ≤ (k : Int) ∧ (k : Int) < w * h := by omega
    have g1 : s[k]? = some (s[k]'(by omega)) := List.getElem?_eq_getElem (by omega)
    have g2 : d[k]? = some d[k] := List.getElem?_eq_getElem hk
    have r1 : rdOf false s (k : Int) = s[k]'(by omega) := rdOf_get g1
    have r2 : rdOf false d (k : Int) = d[k] := rdOf_get g2
    rw [g1, g2, Option.map_some]
    congr 1
    rw [Bool.eq_iff_iff, ← r1, hP k (by omega), gro_iff, r2]
    constructor
    · rintro (q | ⟨q, q1, q2, q3⟩)
      · exact Or.inl q
      · right
        have hq : 0 ≤ (q : Int) ∧ (q : Int) < w * h := by omega
        have := (sides_beside_mem hw hh hcell (q : Int)).1 (beside_sym hw hq hcell q3)
        exact ⟨q, this.1, this.2, q2⟩
    · rintro (q | ⟨c, c1, c2, c3⟩)
      · exact Or.inl q
      · right
        have hb := (sides_beside_mem hw hh hcell c).2 ⟨c1, c2⟩
        have hc := beside_mem hw hh hcell c hb
        refine ⟨c.toNat, by omega, by rw [show ((c.toNat : Nat) : Int) = c by omega]; exact c3, ?_⟩
        rw [show ((c.toNat : Nat) : Int) = c by omega]
        exact beside_sym hw hcell (by omega) hb
  · rw [List.getElem?_eq_none (by omega), List.getElem?_eq_none (by omega)]; rfl
theorem impl_GrowDug_ev (x y : Int) (l : List Int) (d : List Bool) (hn : l.length ≤ 9223372036854775807) : Ev (fun k => impl_GrowDug.f k x y l d) (cellsRes gro x y l d) := by
  by_cases h : benchOk x y l = true ∧ d.length = l.length
  · have hb := bench_len h.1
    have hm := marked_length d 0
    obtain ⟨r, ⟨r1, r2, r3⟩, hr⟩ := impl_GrowDug_l0 d x y l hb.1 hb.2.1 (by omega) (by omega) (marked d 0) (by omega) d 0 0 d rfl rfl rfl (fun c hc => by
      constructor
      · intro q; exact Or.inl q
      · rintro (q | ⟨q, q1, _⟩)
        · exact q
        · omega)
    have e := grow_eq d r.1 hb.1 hb.2.1 (by omega) r2 r3
    refine (ev_and (impl_isDug_ev x y l d hn) <| ev_and (impl_listOf_ev d (by omega)) <| ev_one hr).ev fun k ⟨h1, h2, h3⟩ => ?_
    simp only [impl_GrowDug.f, h1, h2, Option.bind_some, List.nil_append]
    rw [if_pos (by simpa using h), if_pos (by simp; omega), cellsRes, if_pos h, ← e, ← r1]
    exact h3
  · refine (ev_one (impl_isDug_ev x y l d hn)).ev fun k h1 => ?_
    simp only [impl_GrowDug.f, h1, Option.bind_some]
    rw [if_neg (by simpa using h), cellsRes, if_neg h]
theorem j2_ev (n : Nat) (hn : n ≤ 1048576) : Ev (fun k => laws_FnExactGrowDug.j2 k (markB n 1) (1 + (n : Int)) false) true :=
  (ev_one (laws_heldBoolS_ev n 1 (by omega) (by omega))).next fun k h1 => by
    simp only [laws_FnExactGrowDug.j2, h1, Option.bind_some]
    rw [if_neg (by simp), if_neg (by omega), if_pos (by simp)]
theorem j1_ev (x y : Int) (l : List Int) (d : List Bool) (hn : l.length ≤ 1048576) (hm : d.length ≤ 1048576) (r : List Bool × Bool) (hr : r = cellsRes gro x y l d) : Ev (fun k => laws_FnExactGrowDug.j1 k d r.1 r.2 r.1 false x y l) true := by
  have hw := cellsRes_len gro x y l d
  rw [← hr] at hw
  have hi := impl_GrowDug_ev x y l d (by omega)
  rw [← hr] at hi
  refine (ev_and (laws_markBoolS_ev r.1 1 (by omega) (by omega)) <| ev_and (laws_heldBoolS_ev r.1.length 1 (by omega) (by omega)) <| ev_and (laws_toBench_ev x y l hn) <| ev_and (laws_toBoolS_ev d (by omega)) <| ev_and hi <| ev_and (laws_eqBoolS_ev r.1 (by omega)) <| ev_one (j2_ev r.1.length (by omega))).next fun k ⟨h1, h2, h3, h4, h5, h6, h7⟩ => ?_
  simp only [laws_FnExactGrowDug.j1, h1, h2, h3, h4, h5, h6, Option.bind_some]
  rw [if_neg (by simp), if_neg (by omega), if_pos (by simp), if_pos (by simp), bne_self_eq_false, h7]
theorem j0_ev (x y : Int) (l : List Int) (d : List Bool) (hn : l.length ≤ 1048576) (hm : d.length ≤ 1048576) (r : List Bool × Bool) (hr : r = cellsRes gro x y l d) : Ev (fun k => laws_FnExactGrowDug.j0 k d r.1 r.2 d r.1 r.2 false x y l x y l) true := by
  have hw := cellsRes_len gro x y l d
  rw [← hr] at hw
  refine (ev_and (laws_toBench_ev x y l hn) <| ev_and (laws_eqBench_ev x y l hn) <| ev_and (laws_toBoolS_ev d (by omega)) <| ev_and (laws_eqBoolS_ev d (by omega)) <| ev_and (laws_markBench_ev x y l 1 (by omega) (by omega)) <| ev_and (laws_markBoolS_ev d (1 + (l.length : Int)) (by omega) (by omega)) <| ev_and (laws_eqBoolS_ev r.1 (by omega)) <| ev_one (j1_ev x y l d hn hm r hr)).next fun k ⟨h1, h2, h3, h4, h5, h6, h7, h8⟩ => ?_
  simp only [laws_FnExactGrowDug.j0, h1, h2, h3, h4, h5, h6, h7, Option.bind_some]
  rw [if_neg (by simp), if_pos (by simp), if_pos (by simp), if_neg (by omega), if_pos (by simp), bne_self_eq_false, h8]
theorem FnExactGrowDug : Stat.FnExactGrowDug := by
  intro x y l d _ _ hl hd
  refine Ev.rounds ?_
  by_cases hq : (d.length : Int) > 1048576
  · exact Ev.all fun k => by simp only [laws_FnExactGrowDug.f]; rw [if_pos hq]
  by_cases hg : (1048576 : Int) < l.length
  · refine Ev.all fun k => ?_
    simp only [laws_FnExactGrowDug.f, laws_szBench_eq x y l 1048576 (by omega) (by omega) hl.1, Option.bind_some]
    rw [if_neg hq, if_pos hg, if_pos (by omega)]
  · have hn : l.length ≤ 1048576 := by omega
    have hm : d.length ≤ 1048576 := by omega
    have hw := cellsRes_len gro x y l d
    refine (ev_and (laws_toBench_ev x y l hn) <| ev_and (laws_toBoolS_ev d (by omega)) <| ev_and (j0_ev x y l d hn hm _ rfl) <| ev_and (spec_GrowDug_ev x y l d (by omega)) <| ev_and (laws_eqBoolS_ev (cellsRes gro x y l d).1 (by omega)) <| ev_one (impl_GrowDug_ev x y l d (by omega))).ev fun k ⟨h1, h2, h3, h4, h5, h6⟩ => ?_
    simp only [laws_FnExactGrowDug.f, laws_szBench_eq x y l 1048576 (by omega) (by omega) hl.1, h1, h2, h4, h5, h6, Option.bind_some]
    rw [if_neg hq, if_neg hg, if_neg (by omega), if_pos (by simp), bne_self_eq_false, h3]
end Go.Proofs.Ytjkkcejoniadpaa.PureFnExactGrowDug
namespace Go.Proofs.Ytjkkcejoniadpaa.Pure
theorem FnExactGrowDug : Stat.FnExactGrowDug := PureFnExactGrowDug.FnExactGrowDug
end Go.Proofs.Ytjkkcejoniadpaa.Pure
