/- The law FnExactMeanReady over numbers and lists: it is true of every input. -/
import Derived.Test.YtbkolnbdcifnlaaStatFnExactMeanReady
import Derived.Test.YtbkolnbdcifnlaaWMore
set_option linter.unusedVariables false
set_option linter.unusedSimpArgs false
namespace Go.Proofs.Ytbkolnbdcifnlaa.Kit
open Go.RowKit Go.Proofs.YtbkolnbdcifnlaaW.PrintWords Go.Proofs.YtbkolnbdcifnlaaW.PrintMore

/-! ### Rounds -/
theorem Ev.all {α : Type} {g : Nat → Option α} {r : α} (h : ∀ k, g k = some r) : Ev g r := ⟨0, fun k _ => h k⟩
theorem Ev.of1 {α β : Type} {g : Nat → Option α} {f : Nat → Option β} {r : α} {b : β} (h : Ev f b) (k : ∀ k, f k = some b → g k = some r) : Ev g r := by
  obtain ⟨K, h⟩ := h; exact ⟨K, fun n hn => k n (h n hn)⟩
theorem Ev.of2 {α β γ : Type} {g : Nat → Option α} {f : Nat → Option β} {f' : Nat → Option γ} {r : α} {b : β} {c : γ} (h : Ev f b) (h' : Ev f' c) (k : ∀ k, f k = some b → f' k = some c → g k = some r) : Ev g r := by
  obtain ⟨K, h⟩ := h; obtain ⟨K', h'⟩ := h'; exact ⟨K + K', fun n hn => k n (h n (by omega)) (h' n (by omega))⟩
theorem Ev.of3 {α β γ δ : Type} {g : Nat → Option α} {f : Nat → Option β} {f' : Nat → Option γ} {f'' : Nat → Option δ} {r : α} {b : β} {c : γ} {d : δ} (h : Ev f b) (h' : Ev f' c) (h'' : Ev f'' d)
    (k : ∀ k, f k = some b → f' k = some c → f'' k = some d → g k = some r) : Ev g r := by
  obtain ⟨K, h⟩ := h; obtain ⟨K', h'⟩ := h'; obtain ⟨K'', h''⟩ := h''
  exact ⟨K + K' + K'', fun n hn => k n (h n (by omega)) (h' n (by omega)) (h'' n (by omega))⟩
/-- Two at once: a pair of facts for one number of rounds. -/
def Both {α β : Type} (f : Nat → Option α) (g : Nat → Option β) (a : α) (b : β) : Prop := ∃ K, ∀ k, K ≤ k → f k = some a ∧ g k = some b
theorem Ev.next0 {α : Type} {g : Nat → Option α} {r : α} (h : ∀ k, g (k + 1) = some r) : Ev g r :=
  ⟨1, fun n hn => by obtain ⟨m, rfl⟩ : ∃ m, n = m + 1 := ⟨n - 1, by omega⟩; exact h m⟩
theorem Ev.next1 {α β : Type} {g : Nat → Option α} {f : Nat → Option β} {r : α} {b : β} (h : Ev f b) (k : ∀ k, f k = some b → g (k + 1) = some r) : Ev g r := by
  obtain ⟨K, h⟩ := h
  exact ⟨K + 1, fun n hn => by obtain ⟨m, rfl⟩ : ∃ m, n = m + 1 := ⟨n - 1, by omega⟩; exact k m (h m (by omega))⟩
theorem Ev.next2 {α β γ : Type} {g : Nat → Option α} {f : Nat → Option β} {f' : Nat → Option γ} {r : α} {b : β} {c : γ} (h : Ev f b) (h' : Ev f' c) (k : ∀ k, f k = some b → f' k = some c → g (k + 1) = some r) : Ev g r := by
  obtain ⟨K, h⟩ := h; obtain ⟨K', h'⟩ := h'
  exact ⟨K + K' + 1, fun n hn => by obtain ⟨m, rfl⟩ : ∃ m, n = m + 1 := ⟨n - 1, by omega⟩; exact k m (h m (by omega)) (h' m (by omega))⟩
theorem Ev.next3 {α β γ δ : Type} {g : Nat → Option α} {f : Nat → Option β} {f' : Nat → Option γ} {f'' : Nat → Option δ} {r : α} {b : β} {c : γ} {d : δ} (h : Ev f b) (h' : Ev f' c) (h'' : Ev f'' d)
    (k : ∀ k, f k = some b → f' k = some c → f'' k = some d → g (k + 1) = some r) : Ev g r := by
  obtain ⟨K, h⟩ := h; obtain ⟨K', h'⟩ := h'; obtain ⟨K'', h''⟩ := h''
  exact ⟨K + K' + K'' + 1, fun n hn => by obtain ⟨m, rfl⟩ : ∃ m, n = m + 1 := ⟨n - 1, by omega⟩; exact k m (h m (by omega)) (h' m (by omega)) (h'' m (by omega))⟩
theorem Ev.uniq {α : Type} {g : Nat → Option α} {r s : α} (h : Ev g r) (k : Ev g s) : r = s := by
  obtain ⟨K, h⟩ := h; obtain ⟨K', k⟩ := k
  have a := h (K + K') (by omega); have b := k (K + K') (by omega)
  rw [a] at b; exact Option.some.inj b

/-- From some number of rounds on. -/
def Evt (p : Nat → Prop) : Prop := ∃ K, ∀ k, K ≤ k → p k
theorem ev_one {α : Type} {f : Nat → Option α} {a : α} (h : Ev f a) : Evt (fun k => f k = some a) := h
theorem ev_and {α : Type} {f : Nat → Option α} {a : α} {p : Nat → Prop} (h : Ev f a) (h' : Evt p) : Evt (fun k => f k = some a ∧ p k) := by
  obtain ⟨K, h⟩ := h; obtain ⟨K', h'⟩ := h'; exact ⟨K + K', fun n hn => ⟨h n (by omega), h' n (by omega)⟩⟩
theorem Evt.ev {α : Type} {g : Nat → Option α} {r : α} {p : Nat → Prop} (h : Evt p) (k : ∀ k, p k → g k = some r) : Ev g r := by
  obtain ⟨K, h⟩ := h; exact ⟨K, fun n hn => k n (h n hn)⟩
theorem Evt.next {α : Type} {g : Nat → Option α} {r : α} {p : Nat → Prop} (h : Evt p) (k : ∀ k, p k → g (k + 1) = some r) : Ev g r := by
  obtain ⟨K, h⟩ := h
  exact ⟨K + 1, fun n hn => by obtain ⟨m, rfl⟩ : ∃ m, n = m + 1 := ⟨n - 1, by omega⟩; exact k m (h m (by omega))⟩

/-! ### Whole numbers -/
theorem wrap_id {x : Int} (h0 : -9223372036854775808 ≤ x) (h1 : x ≤ 9223372036854775807) : wrap64 x = x := by unfold wrap64; omega
theorem wrap_succ {i n : Nat} (h : i < n) (hn : n ≤ 9223372036854775807) : wrap64 ((i : Int) + 1) = ((i + 1 : Nat) : Int) := by unfold wrap64; omega
theorem toNat_cast (i : Nat) : ((i : Int)).toNat = i := by omega

theorem mx_eq (a b : Int) : mx a b = max a b := by unfold mx; split <;> omega
theorem mn_eq (a b : Int) : mn a b = min a b := by unfold mn; split <;> omega

/-! ### Lists from an index on -/
theorem drop_cons {α : Type} {xs ys : List α} {y : α} {i : Nat} (h : xs.drop i = y :: ys) : i < xs.length ∧ xs[i]? = some y ∧ xs.drop (i + 1) = ys := by
  have hlt : i < xs.length := by
    by_cases hlt : i < xs.length
    · exact hlt
    · rw [List.drop_of_length_le (by omega)] at h; cases h
  rw [List.drop_eq_getElem_cons hlt] at h
  injection h with h1 h2
  exact ⟨hlt, by rw [List.getElem?_eq_getElem hlt, h1], h2⟩
theorem drop_nil {α : Type} {xs : List α} {i : Nat} (h : xs.drop i = []) : xs.length ≤ i := by simpa using h
theorem getD_drop {α : Type} {xs ys : List α} {y d : α} {i : Nat} (h : xs.drop i = y :: ys) : xs.getD ((i : Int)).toNat d = y := by
  rw [toNat_cast, List.getD_eq_getElem?_getD, (drop_cons h).2.1]; rfl
theorem rd_drop {xs ys : List Int} {y : Int} {i : Nat} (h : xs.drop i = y :: ys) : rd xs (i : Int) = y := getD_drop h
theorem rdOf_drop {α : Type} {xs ys : List α} {y d : α} {i : Nat} (h : xs.drop i = y :: ys) : rdOf d xs (i : Int) = y := getD_drop h
theorem getD_get {α : Type} {xs : List α} {y d : α} {i : Nat} (h : xs[i]? = some y) : xs.getD ((i : Int)).toNat d = y := by
  rw [toNat_cast, List.getD_eq_getElem?_getD, h]; rfl
theorem rd_get {xs : List Int} {y : Int} {i : Nat} (h : xs[i]? = some y) : rd xs (i : Int) = y := getD_get h
theorem rdOf_get {α : Type} {xs : List α} {y d : α} {i : Nat} (h : xs[i]? = some y) : rdOf d xs (i : Int) = y := getD_get h
theorem drop_of_get {α : Type} {xs : List α} {y : α} {i : Nat} (h : xs[i]? = some y) : xs.drop i = y :: xs.drop (i + 1) := by
  obtain ⟨hl, rfl⟩ := List.getElem?_eq_some_iff.1 h
  exact List.drop_eq_getElem_cons hl

/-- What is left of a, n taken off; -1 if it isn't enough. -/
def left (a : Int) (n : Nat) : Int := if a < (n : Int) then -1 else a - (n : Int)
theorem left_lt {a : Int} {n : Nat} (h : a < (n : Int)) : left a n = -1 := if_pos h
theorem left_ge {a : Int} {n : Nat} (h : (n : Int) ≤ a) : left a n = a - (n : Int) := if_neg (by omega)
/-- How many values rows hold, the rows counted too. -/
def tot : List (List Int) → Nat
  | [] => 0
  | y :: ys => 1 + y.length + tot ys
def sumLen : List (List Int) → Nat
  | [] => 0
  | y :: ys => y.length + sumLen ys
theorem tot_eq : ∀ ls : List (List Int), tot ls = ls.length + sumLen ls
  | [] => rfl
  | y :: ys => by simp only [tot, sumLen, List.length_cons, tot_eq ys]; omega
theorem sumLen_mem : ∀ {ls : List (List Int)} {y : List Int}, y ∈ ls → y.length ≤ sumLen ls
  | z :: zs, y, h => by
    rcases List.mem_cons.1 h with rfl | h
    · simp only [sumLen]; omega
    · have := sumLen_mem h; simp only [sumLen]; omega

/-! ### A list that is copied, element for element -/
theorem copy_step {α : Type} {m x : List α} {y : α} {i : Nat} (hm : m[i]? = some y) (hl : x.length = m.length) (ht : x.take i = m.take i) : (x.set i y).length = m.length ∧ (x.set i y).take (i + 1) = m.take (i + 1) := by
  obtain ⟨hi, rfl⟩ := List.getElem?_eq_some_iff.1 hm
  refine ⟨by simpa using hl, ?_⟩
  apply List.ext_getElem?
  intro j
  have hj : (x.take i)[j]? = (m.take i)[j]? := by rw [ht]
  rw [List.getElem?_take, List.getElem?_take] at *
  by_cases h1 : j < i + 1
  · rw [if_pos h1, if_pos h1]
    by_cases h2 : j = i
    · subst h2
      rw [List.getElem?_set_self (by omega), List.getElem?_eq_getElem hi]
    · rw [List.getElem?_set_ne (by omega)]
      rw [if_pos (by omega), if_pos (by omega)] at hj
      exact hj
  · rw [if_neg h1, if_neg h1]
theorem copy_end {α : Type} {m x : List α} {i : Nat} (hl : x.length = m.length) (ht : x.take i = m.take i) (hi : m.length ≤ i) : x = m := by
  rw [List.take_of_length_le (by omega), List.take_of_length_le hi] at ht; exact ht

/-! ### Strictly increasing lists of 0..n-1 -/
def rise (n : Int) : Int → List Int → Bool
  | _, [] => true
  | p, y :: ys => decide (0 ≤ y ∧ y < n ∧ p < y) && rise n y ys
theorem rise_mem {n : Int} : ∀ {p : Int} {ys : List Int}, rise n p ys = true → ∀ y ∈ ys, 0 ≤ y ∧ y < n ∧ p < y
  | p, [], _, y, hy => by cases hy
  | p, z :: zs, h, y, hy => by
    simp only [rise, Bool.and_eq_true, decide_eq_true_eq] at h
    rcases List.mem_cons.1 hy with rfl | hy
    · exact h.1
    · have := rise_mem h.2 y hy; omega

/-! ### Numbers marked and held -/
def markI : Nat → Int → List Int
  | 0, _ => []
  | n + 1, k => k :: markI n (k + 1)
theorem markI_length : ∀ (n : Nat) (k : Int), (markI n k).length = n
  | 0, _ => rfl
  | n + 1, k => by simp [markI, markI_length n (k + 1)]
theorem markI_get : ∀ (n : Nat) (k : Int) (j : Nat), j < n → (markI n k)[j]? = some (k + j)
  | 0, _, _, h => by omega
  | n + 1, k, 0, _ => by simp [markI]
  | n + 1, k, j + 1, h => by simp only [markI, List.getElem?_cons_succ]; rw [markI_get n (k + 1) j (by omega)]; congr 1; push_cast; omega
def markB : Nat → Int → List Bool
  | 0, _ => []
  | n + 1, k => (Int.tmod k 3 == 0) :: markB n (k + 1)
theorem markB_length : ∀ (n : Nat) (k : Int), (markB n k).length = n
  | 0, _ => rfl
  | n + 1, k => by simp [markB, markB_length n (k + 1)]
theorem markB_get : ∀ (n : Nat) (k : Int) (j : Nat), j < n → (markB n k)[j]? = some (Int.tmod (k + j) 3 == 0)
  | 0, _, _, h => by omega
  | n + 1, k, 0, _ => by simp [markB]
  | n + 1, k, j + 1, h => by simp only [markB, List.getElem?_cons_succ]; rw [markB_get n (k + 1) j (by omega)]; congr 2; congr 1; push_cast; omega
end Go.Proofs.Ytbkolnbdcifnlaa.Kit
namespace Go.Proofs.Ytbkolnbdcifnlaa.Model
open Go.RowKit Go.Proofs.YtbkolnbdcifnlaaW.PrintWords Go.Proofs.Ytbkolnbdcifnlaa.Kit

/-- Numbers within bounds, all of them. -/
def allIn (lo hi : Int) : List Int → Bool
  | [] => true
  | y :: ys => decide (lo ≤ y ∧ y ≤ hi) && allIn lo hi ys
theorem allIn_mem {lo hi : Int} : ∀ {ys : List Int}, allIn lo hi ys = true → ∀ y ∈ ys, lo ≤ y ∧ y ≤ hi
  | [], _, y, hy => by cases hy
  | z :: zs, h, y, hy => by
    simp only [allIn, Bool.and_eq_true, decide_eq_true_eq] at h
    rcases List.mem_cons.1 hy with rfl | hy
    · exact h.1
    · exact allIn_mem h.2 y hy
theorem allIn_get {lo hi : Int} {ys : List Int} (h : allIn lo hi ys = true) {i : Nat} {y : Int} (hy : ys[i]? = some y) : lo ≤ y ∧ y ≤ hi := allIn_mem h y (List.mem_of_getElem? hy)
theorem allIn_of {lo hi : Int} : ∀ {ys : List Int}, (∀ y ∈ ys, lo ≤ y ∧ y ≤ hi) → allIn lo hi ys = true
  | [], _ => rfl
  | z :: zs, h => by simp only [allIn, Bool.and_eq_true, decide_eq_true_eq]; exact ⟨h z (by simp), allIn_of fun y hy => h y (by simp [hy])⟩

/-- The greatest number of 'false' behind each other; m: so far; n: those just before. -/
def down : List Bool → Int → Int → Int
  | [], m, _ => m
  | b :: bs, m, n => if b = true then down bs (max m 0) 0 else down bs (max m (n + 1)) (n + 1)

def mixStep (a x : Int) : Int := Int.tmod (wrap64 ((Int.tmod (wrap64 ((wrap64 ((wrap64 (33 * a)) + x)) + 11)) 1000003) * (wrap64 ((wrap64 (Int.tdiv (Int.tmod (wrap64 ((wrap64 ((wrap64 (33 * a)) + x)) + 11)) 1000003) 16)) + 7)))) 1000003
def mix (l : List Int) : Int := (l ++ [5, 2]).foldl mixStep (wrap64 (6007 + (l.length : Int)))
def keyOk (l : List Int) : Bool := decide (l.length ≤ 8) && allIn 0 1000000000 l

def gridOk (x y z : Int) : Bool := decide (1 ≤ x ∧ x ≤ 8 ∧ 1 ≤ y ∧ y ≤ 6 ∧ 1 ≤ z ∧ z ≤ 5 ∧ x * y * z ≤ 120)
theorem grid_prod {x y z : Int} (hx : 1 ≤ x ∧ x ≤ 8) (hy : 1 ≤ y ∧ y ≤ 6) (hz : 1 ≤ z ∧ z ≤ 5) : 1 ≤ x * y ∧ x * y ≤ 48 ∧ 1 ≤ x * y * z ∧ x * y * z ≤ 240 := by
  rcases (by omega : x = 1 ∨ x = 2 ∨ x = 3 ∨ x = 4 ∨ x = 5 ∨ x = 6 ∨ x = 7 ∨ x = 8) with rfl | rfl | rfl | rfl | rfl | rfl | rfl | rfl <;>
    rcases (by omega : z = 1 ∨ z = 2 ∨ z = 3 ∨ z = 4 ∨ z = 5) with rfl | rfl | rfl | rfl | rfl <;> omega
theorem grid_ok {x y z : Int} (h : gridOk x y z = true) : (1 ≤ x ∧ x ≤ 8) ∧ (1 ≤ y ∧ y ≤ 6) ∧ (1 ≤ z ∧ z ≤ 5) ∧ 1 ≤ x * y ∧ x * y ≤ 48 ∧ 1 ≤ x * y * z ∧ x * y * z ≤ 120 := by
  simp only [gridOk, decide_eq_true_eq] at h
  have := grid_prod (x := x) (y := y) (z := z) (by omega) (by omega) (by omega)
  omega
theorem grid_wrap {x y z : Int} (hx : 1 ≤ x ∧ x ≤ 8) (hy : 1 ≤ y ∧ y ≤ 6) (hz : 1 ≤ z ∧ z ≤ 5) : wrap64 (wrap64 (x * y) * z) = x * y * z := by
  have := grid_prod hx hy hz
  rw [wrap_id (x := x * y) (by omega) (by omega), wrap_id (by omega) (by omega)]
def holeOk (gx gy gz x y z t g : Int) : Bool := decide (0 ≤ x ∧ x < 10 * gx ∧ 0 ≤ y ∧ y < 10 * gy ∧ 0 ≤ z ∧ z < 10 * gz ∧ 1 ≤ t ∧ t ≤ 1000 ∧ 0 ≤ g ∧ g ≤ 1000)
def benchOk (x y : Int) (l : List Int) : Bool := decide (1 ≤ x ∧ x ≤ 8 ∧ 1 ≤ y ∧ y ≤ 6 ∧ (l.length : Int) = x * y) && allIn (-1000000) 1000000 l
theorem bench_prod {x y : Int} (hx : 1 ≤ x ∧ x ≤ 8) (hy : 1 ≤ y ∧ y ≤ 6) : 1 ≤ x * y ∧ x * y ≤ 48 := by
  rcases (by omega : x = 1 ∨ x = 2 ∨ x = 3 ∨ x = 4 ∨ x = 5 ∨ x = 6 ∨ x = 7 ∨ x = 8) with rfl | rfl | rfl | rfl | rfl | rfl | rfl | rfl <;> omega
theorem bench_len {x y : Int} {l : List Int} (h : benchOk x y l = true) : (1 ≤ x ∧ x ≤ 8) ∧ (1 ≤ y ∧ y ≤ 6) ∧ (l.length : Int) = x * y ∧ 1 ≤ l.length ∧ l.length ≤ 48 := by
  simp only [benchOk, Bool.and_eq_true, decide_eq_true_eq] at h
  have := bench_prod (x := x) (y := y) (by omega) (by omega)
  omega
theorem bench_vals {x y : Int} {l : List Int} (h : benchOk x y l = true) : allIn (-1000000) 1000000 l = true := by
  simp only [benchOk, Bool.and_eq_true] at h; exact h.2
def rowHolds (l : List Int) : Bool := decide (rd l 0 = wrap64 (wrap64 (rd l 2 + rd l 4) + rd l 6)) && (rd l 1 == wrap64 (wrap64 (rd l 3 + rd l 5) + rd l 7))
def rowOk (l : List Int) : Bool := decide (l.length = 12) && allIn 0 100000000000 l
def rowsOk : List (List Int) → Bool
  | [] => true
  | y :: ys => rowOk y && rowsOk ys
theorem rowsOk_mem : ∀ {ls : List (List Int)}, rowsOk ls = true → ∀ y ∈ ls, rowOk y = true
  | z :: zs, h, y, hy => by
    simp only [rowsOk, Bool.and_eq_true] at h
    rcases List.mem_cons.1 hy with rfl | hy
    · exact h.1
    · exact rowsOk_mem h.2 y hy
theorem row_len {y : List Int} (h : rowOk y = true) : y.length = 12 := by simp [rowOk] at h; exact h.1
theorem row_rd {y : List Int} (h : rowOk y = true) (i : Nat) (hi : i < 12) : 0 ≤ rd y (i : Int) ∧ rd y (i : Int) ≤ 100000000000 := by
  have hl := row_len h
  simp only [rowOk, Bool.and_eq_true] at h
  have hg : y[i]? = some (y[i]'(by omega)) := List.getElem?_eq_getElem (by omega)
  rw [rd_get hg]
  exact allIn_get h.2 hg
def piles : List (List Int) → Int → Int
  | [], m => m
  | y :: ys, m => piles ys (max m (rd y 10))
/-- The first row that doesn't balance, from index i on. -/
def imbal : List (List Int) → Nat → Int → Int → Nat
  | [], i, _, _ => i
  | y :: ys, i, t, m => if rowHolds y = true ∧ rd y 10 = t + (rd y 4 - rd y 8) ∧ rd y 11 = m + (rd y 5 - rd y 9) then imbal ys (i + 1) (rd y 10) (rd y 11) else i
def machOk (a b : Int) : Bool := decide (0 ≤ a ∧ a ≤ 100 ∧ 0 ≤ b ∧ b ≤ 100)
/-- The states of a machine: d shifts, from shift s on; 'now': is it ready? -/
def states (f r key : Int) : Nat → Int → Bool → List Bool
  | 0, _, _ => []
  | d + 1, s, now => now :: states f r key d (s + 1) (if Int.tmod (mix [key, s, 3, 100]) 100 < (if now = true then f else r) then !now else now)
theorem states_length (f r key : Int) : ∀ (d : Nat) (s : Int) (now : Bool), (states f r key d s now).length = d
  | 0, _, _ => rfl
  | d + 1, s, now => by simp [states, states_length]
/-- Tonnes and losses of a bench. -/
def lossWaste : List Int → List Bool → Int → Int → Int × Int
  | v :: vs, b :: bs, l, w => if b = true then lossWaste vs bs l (w + max 0 (-v)) else lossWaste vs bs (l + max 0 v) w
  | _, _, l, w => (l, w)
def dugSum : List Int → List Bool → Int → Int
  | v :: vs, b :: bs, s => dugSum vs bs (if b = true then s + v else s)
  | _, _, s => s
def modelOk (x y z : Int) (t g r : List Int) : Bool := gridOk x y z && decide ((t.length : Int) = x * y * z ∧ (g.length : Int) = x * y * z ∧ (r.length : Int) = x * y * z) && (allIn 0 10000 t && (allIn 0 1000 g && allIn 0 4 r))
theorem sq_bd {d : Int} (h : -1000 ≤ d ∧ d ≤ 1000) : 0 ≤ d * d ∧ d * d ≤ 1000000 := by
  rcases Int.le_total 0 d with h0 | h0
  · exact ⟨Int.mul_nonneg h0 h0, Int.mul_le_mul h.2 h.2 h0 (by omega)⟩
  · rw [← Int.neg_mul_neg]
    exact ⟨Int.mul_nonneg (by omega) (by omega), Int.mul_le_mul (a := -d) (b := -d) (c := 1000) (d := 1000) (by omega) (by omega) (by omega) (by omega)⟩
/-- The square of the distance of a place from the middle of a block's place. -/
def farOf (px py pz x y z : Int) : Int := (x - 10 * px - 5) * (x - 10 * px - 5) + (y - 10 * py - 5) * (y - 10 * py - 5) + (z - 10 * pz - 5) * (z - 10 * pz - 5)
theorem far_nonneg (px py pz x y z : Int) : 0 ≤ farOf px py pz x y z := by
  have h : ∀ d : Int, 0 ≤ d * d := fun d => by
    rcases Int.le_total 0 d with h0 | h0
    · exact Int.mul_nonneg h0 h0
    · rw [← Int.neg_mul_neg]; exact Int.mul_nonneg (by omega) (by omega)
  have a := h (x - 10 * px - 5); have b := h (y - 10 * py - 5); have c := h (z - 10 * pz - 5)
  unfold farOf; omega
theorem far_wrap {px py pz x y z : Int} (hx : 0 ≤ px ∧ px ≤ 10) (hy : 0 ≤ py ∧ py ≤ 10) (hz : 0 ≤ pz ∧ pz ≤ 10) (kx : 0 ≤ x ∧ x ≤ 100) (ky : 0 ≤ y ∧ y ≤ 100) (kz : 0 ≤ z ∧ z ≤ 100) :
    wrap64 ((wrap64 ((wrap64 ((wrap64 ((wrap64 (x - (wrap64 (10 * px)))) - 5)) * (wrap64 ((wrap64 (x - (wrap64 (10 * px)))) - 5)))) + (wrap64 ((wrap64 ((wrap64 (y - (wrap64 (10 * py)))) - 5)) * (wrap64 ((wrap64 (y - (wrap64 (10 * py)))) - 5)))))) + (wrap64 ((wrap64 ((wrap64 (z - (wrap64 (10 * pz)))) - 5)) * (wrap64 ((wrap64 (z - (wrap64 (10 * pz)))) - 5))))) = farOf px py pz x y z := by
  have a := sq_bd (d := x - 10 * px - 5) (by omega)
  have b := sq_bd (d := y - 10 * py - 5) (by omega)
  have c := sq_bd (d := z - 10 * pz - 5) (by omega)
  rw [wrap_id (x := 10 * px) (by omega) (by omega), wrap_id (x := 10 * py) (by omega) (by omega), wrap_id (x := 10 * pz) (by omega) (by omega),
    wrap_id (x := x - 10 * px) (by omega) (by omega), wrap_id (x := y - 10 * py) (by omega) (by omega), wrap_id (x := z - 10 * pz) (by omega) (by omega),
    wrap_id (x := x - 10 * px - 5) (by omega) (by omega), wrap_id (x := y - 10 * py - 5) (by omega) (by omega), wrap_id (x := z - 10 * pz - 5) (by omega) (by omega),
    wrap_id (x := (x - 10 * px - 5) * (x - 10 * px - 5)) (by omega) (by omega), wrap_id (x := (y - 10 * py - 5) * (y - 10 * py - 5)) (by omega) (by omega), wrap_id (x := (z - 10 * pz - 5) * (z - 10 * pz - 5)) (by omega) (by omega),
    wrap_id (x := (x - 10 * px - 5) * (x - 10 * px - 5) + (y - 10 * py - 5) * (y - 10 * py - 5)) (by omega) (by omega), wrap_id (by omega) (by omega)]
  rfl
def near {α : Type} (far : α → Int) : List α → Int → Int → Int → Int
  | [], _, best, _ => best
  | h :: hs, i, best, least => if least < 0 ∨ far h < least then near far hs (i + 1) i (far h) else near far hs (i + 1) best least
def hasBlock (x y z i : Int) : Bool := gridOk x y z && decide (0 ≤ i ∧ i < x * y * z)
theorem place_of {x y z i : Int} (h : hasBlock x y z i = true) : (0 ≤ i % x ∧ i % x < x) ∧ (0 ≤ i / x % y ∧ i / x % y < y) ∧ (0 ≤ i / x / y ∧ i / x / y < z) ∧ 0 ≤ i / x ∧ i / x ≤ 120 := by
  simp only [hasBlock, Bool.and_eq_true, decide_eq_true_eq] at h
  have hb := grid_ok h.1
  have hi := h.2
  have h1 : 0 ≤ i / x := Int.ediv_nonneg (by omega) (by omega)
  have h2 : i / x < y * z := by
    apply Int.ediv_lt_of_lt_mul (by omega)
    rw [Int.mul_comm (y * z) x, ← Int.mul_assoc]; exact hi.2
  have h3 : i / x / y < z := by
    apply Int.ediv_lt_of_lt_mul (by omega)
    rw [Int.mul_comm z y]; exact h2
  have h4 : i / x ≤ i := Int.ediv_le_self _ (by omega)
  exact ⟨⟨Int.emod_nonneg _ (by omega), Int.emod_lt_of_pos _ (by omega)⟩, ⟨Int.emod_nonneg _ (by omega), Int.emod_lt_of_pos _ (by omega)⟩, ⟨Int.ediv_nonneg h1 (by omega), h3⟩, h1, by omega⟩
/-- A fraction in lowest terms, of numbers that are not negative. -/
def low (a b : Int) : Int × Int := (a / (Nat.gcd a.natAbs b.natAbs : Int), b / (Nat.gcd a.natAbs b.natAbs : Int))
theorem low_bd {a b : Int} (ha : 0 ≤ a) (hb : 0 < b) : 1 ≤ (Nat.gcd a.natAbs b.natAbs : Int) ∧ 0 ≤ (low a b).1 ∧ (low a b).1 ≤ a ∧ 1 ≤ (low a b).2 ∧ (low a b).2 ≤ b ∧ a = (low a b).1 * (Nat.gcd a.natAbs b.natAbs : Int) ∧ b = (low a b).2 * (Nat.gcd a.natAbs b.natAbs : Int) := by
  have hg : 0 < Nat.gcd a.natAbs b.natAbs := Nat.gcd_pos_of_pos_right _ (by omega)
  have d1 : (Nat.gcd a.natAbs b.natAbs : Int) ∣ a := Int.natAbs_dvd_natAbs.1 (by simpa using Nat.gcd_dvd_left a.natAbs b.natAbs)
  have d2 : (Nat.gcd a.natAbs b.natAbs : Int) ∣ b := Int.natAbs_dvd_natAbs.1 (by simpa using Nat.gcd_dvd_right a.natAbs b.natAbs)
  have e1 := Int.ediv_mul_cancel d1
  have e2 := Int.ediv_mul_cancel d2
  have h1 : 0 ≤ a / (Nat.gcd a.natAbs b.natAbs : Int) := Int.ediv_nonneg ha (by omega)
  have h2 : a / (Nat.gcd a.natAbs b.natAbs : Int) ≤ a := Int.ediv_le_self _ ha
  have h3 : 0 ≤ b / (Nat.gcd a.natAbs b.natAbs : Int) := Int.ediv_nonneg (by omega) (by omega)
  have h4 : b / (Nat.gcd a.natAbs b.natAbs : Int) ≤ b := Int.ediv_le_self _ (by omega)
  refine ⟨by omega, h1, h2, ?_, h4, e1.symm, e2.symm⟩
  by_cases h5 : b / (Nat.gcd a.natAbs b.natAbs : Int) = 0
  · rw [h5] at e2; omega
  · show 1 ≤ b / (Nat.gcd a.natAbs b.natAbs : Int); omega
theorem low_scale {a b c : Int} (ha : 0 ≤ a) (hb : 0 < b) (hc : 0 < c) : low (a * c) (b * c) = low a b := by
  have hg : 0 < Nat.gcd a.natAbs b.natAbs := Nat.gcd_pos_of_pos_right _ (by omega)
  have e : (Nat.gcd (a * c).natAbs (b * c).natAbs : Int) = (Nat.gcd a.natAbs b.natAbs : Int) * c := by
    rw [Int.natAbs_mul, Int.natAbs_mul, Nat.gcd_mul_right, Int.natCast_mul]; congr 1; omega
  simp only [low, e]
  rw [Int.mul_ediv_mul_of_pos_left _ _ hc, Int.mul_ediv_mul_of_pos_left _ _ hc]
/-- Ready and down, behind one shift more. -/
def turn (f r : Int) (p : Int × Int) : Int × Int := (p.1 * (100 - f) + p.2 * r, p.1 * f + p.2 * (100 - r))
def turns (f r : Int) : Nat → Int × Int → Int × Int
  | 0, p => p
  | n + 1, p => turns f r n (turn f r p)
def begin_ (c : Bool) : Int × Int := if c = true then (1, 0) else (0, 1)
theorem turn_bd {f r : Int} {p : Int × Int} (hm : machOk f r = true) (h1 : 0 ≤ p.1) (h2 : 0 ≤ p.2) :
    (0 ≤ p.1 * (100 - f) ∧ p.1 * (100 - f) ≤ p.1 * 100) ∧ (0 ≤ p.2 * r ∧ p.2 * r ≤ p.2 * 100) ∧ (0 ≤ p.1 * f ∧ p.1 * f ≤ p.1 * 100) ∧ (0 ≤ p.2 * (100 - r) ∧ p.2 * (100 - r) ≤ p.2 * 100) ∧ p.1 * f = p.1 * 100 - p.1 * (100 - f) ∧ p.2 * (100 - r) = p.2 * 100 - p.2 * r := by
  simp only [machOk, decide_eq_true_eq] at hm
  have m : ∀ {a b : Int}, 0 ≤ a → 0 ≤ b → b ≤ 100 → 0 ≤ a * b ∧ a * b ≤ a * 100 := fun ha hb hc => ⟨Int.mul_nonneg ha hb, Int.mul_le_mul_of_nonneg_left hc ha⟩
  refine ⟨m h1 (by omega) (by omega), m h2 (by omega) (by omega), m h1 (by omega) (by omega), m h2 (by omega) (by omega), ?_, ?_⟩
  · rw [Int.mul_sub]; omega
  · rw [Int.mul_sub]
theorem turn_sum {f r : Int} {p : Int × Int} (hm : machOk f r = true) (h1 : 0 ≤ p.1) (h2 : 0 ≤ p.2) : 0 ≤ (turn f r p).1 ∧ 0 ≤ (turn f r p).2 ∧ (turn f r p).1 + (turn f r p).2 = (p.1 + p.2) * 100 := by
  have := turn_bd hm h1 h2
  simp only [turn]; omega
theorem turns_sum {f r : Int} (hm : machOk f r = true) : ∀ (n : Nat) (p : Int × Int), 0 ≤ p.1 → 0 ≤ p.2 → 0 ≤ (turns f r n p).1 ∧ 0 ≤ (turns f r n p).2 ∧ (turns f r n p).1 + (turns f r n p).2 = (p.1 + p.2) * 100 ^ n
  | 0, p, h1, h2 => by simp [turns, h1, h2]
  | n + 1, p, h1, h2 => by
    have a := turn_sum hm h1 h2
    have b := turns_sum hm n (turn f r p) a.1 a.2.1
    simp only [turns]
    refine ⟨b.1, b.2.1, ?_⟩
    rw [b.2.2, a.2.2, Int.pow_succ, Int.mul_assoc, Int.mul_comm 100 (100 ^ n)]
theorem pow_ge (n : Nat) : 1 ≤ (100 : Int) ^ n := by have := Int.pow_pos (n := 100) (m := n) (by omega); omega
/-- What the shifts tell: the first number of each. -/
def tells (f r : Int) : Nat → Int × Int → List Int
  | 0, _ => []
  | n + 1, p => (turn f r p).1 :: tells f r n (turn f r p)
theorem tells_length (f r : Int) : ∀ (n : Nat) (p : Int × Int), (tells f r n p).length = n
  | 0, _ => rfl
  | n + 1, p => by simp [tells, tells_length f r n]
theorem tells_get (f r : Int) : ∀ (n : Nat) (p : Int × Int) (s : Nat), s < n → (tells f r n p)[s]? = some (turns f r (s + 1) p).1
  | 0, _, s, h => by omega
  | n + 1, p, 0, h => by simp [tells, turns]
  | n + 1, p, s + 1, h => by simp only [tells, List.getElem?_cons_succ]; rw [tells_get f r n (turn f r p) s (by omega)]; rfl
/-- The sum of the first j numbers, each brought to 100 to the power e. -/
def meanSum (C : Nat → Int) (e : Nat) : Nat → Int
  | 0 => 0
  | j + 1 => meanSum C e j + C j * 100 ^ (e - j)
theorem meanSum_bd {C : Nat → Int} {e : Nat} (hC : ∀ s, s ≤ 5 → 0 ≤ C s ∧ C s ≤ 100 ^ s) : ∀ j, j ≤ e + 1 → j ≤ 5 → (0 ≤ meanSum C e j ∧ meanSum C e j ≤ j * 100 ^ e) ∧ (j ≤ e → 0 ≤ C j * 100 ^ (e - j) ∧ C j * 100 ^ (e - j) ≤ 100 ^ e)
  | 0, h, h5 => ⟨by simp [meanSum], fun _ => by
      have c := hC 0 (by omega)
      refine ⟨Int.mul_nonneg c.1 (by have := pow_ge (e - 0); omega), ?_⟩
      have h : C 0 * 100 ^ (e - 0) ≤ 1 * 100 ^ (e - 0) := Int.mul_le_mul_of_nonneg_right (by simpa using c.2) (by have := pow_ge (e - 0); omega)
      simpa using h⟩
  | j + 1, h, h5 => by
    have a := meanSum_bd (e := e) hC j (by omega) (by omega)
    have a2 := a.2 (by omega)
    refine ⟨?_, fun hj => ?_⟩
    · simp only [meanSum]
      have e1 : ((j + 1 : Nat) : Int) * 100 ^ e = (j : Int) * 100 ^ e + 100 ^ e := by rw [Int.natCast_succ, Int.add_mul, Int.one_mul]
      omega
    · have c := hC (j + 1) h5
      have hp := pow_ge (e - (j + 1))
      refine ⟨Int.mul_nonneg c.1 (by omega), ?_⟩
      have q : C (j + 1) * 100 ^ (e - (j + 1)) ≤ 100 ^ (j + 1) * 100 ^ (e - (j + 1)) := Int.mul_le_mul_of_nonneg_right c.2 (by omega)
      rw [← Int.pow_add (100 : Int) (j + 1) (e - (j + 1)), show j + 1 + (e - (j + 1)) = e by omega] at q
      exact q
theorem meanSum_scale (C : Nat → Int) (e d : Nat) : ∀ j, j ≤ e + 1 → meanSum C (e + d) j = meanSum C e j * 100 ^ d
  | 0, h => by simp [meanSum]
  | j + 1, h => by
    simp only [meanSum]
    rw [meanSum_scale C e d j (by omega), Int.add_mul, Int.mul_assoc (C j), ← Int.pow_add, show e + d - j = e - j + d by omega]
theorem pow_div (j : Nat) (h : j ≤ 4) : (100000000 : Int) / 100 ^ j = 100 ^ (4 - j) := by
  rcases (by omega : j = 0 ∨ j = 1 ∨ j = 2 ∨ j = 3 ∨ j = 4) with rfl | rfl | rfl | rfl | rfl <;> decide
end Go.Proofs.Ytbkolnbdcifnlaa.Model
namespace Go.Proofs.Ytbkolnbdcifnlaa.PureFnExactMeanReady
open Go.RowKit Go.Proofs.Ytbkolnbdcifnlaa.PFnExactMeanReady Go.Proofs.YtbkolnbdcifnlaaW.PrintWords Go.Proofs.YtbkolnbdcifnlaaW.PrintLast Go.Proofs.YtbkolnbdcifnlaaW.PrintMore Go.Proofs.Ytbkolnbdcifnlaa.Kit Go.Proofs.Ytbkolnbdcifnlaa.Model
theorem spec_l1In_eq (a lo hi : Int) : spec_l1In.f a lo hi = some (decide (lo ≤ a ∧ a ≤ hi)) := by
  unfold spec_l1In.f
  split
  · congr 1; simp; omega
  · congr 1; simp; omega
theorem spec_brGood_eq (a b : Int) (c : Bool) : spec_brGood.f a b c = some (machOk a b) := by
  simp only [spec_brGood.f, spec_l1In_eq, Option.bind_some, decide_eq_true_eq, machOk]
  by_cases h : 0 ≤ a ∧ a ≤ 100
  · rw [if_pos h]; congr 1; rw [decide_eq_decide]; omega
  · rw [if_neg h]; congr 1; symm; simp; omega
theorem spec_moPart_l0 (x y : Int) : ∀ (n b a : Nat), b ≤ n → 0 < a + b → Ev (fun k => spec_moPart.l0 k x y (a : Int) (b : Int)) (wrap64 (Int.tdiv x (Nat.gcd a b : Int)), wrap64 (Int.tdiv y (Nat.gcd a b : Int)))
  | n, 0, a, hn, h => Ev.next0 fun k => by
      simp only [spec_moPart.l0, Nat.gcd_zero_right]
      rw [if_neg (by omega), if_neg (by omega)]
  | 0, b + 1, a, hn, h => by omega
  | n + 1, b + 1, a, hn, h => by
      have hlt := Nat.mod_lt a (show 0 < b + 1 by omega)
      refine Ev.next1 (spec_moPart_l0 x y n (a % (b + 1)) (b + 1) (by omega) (by omega)) fun k hk => ?_
      have em : Int.tmod (a : Int) ((b + 1 : Nat) : Int) = ((a % (b + 1) : Nat) : Int) := by
        rw [Int.tmod_eq_emod_of_nonneg (by omega)]; exact (Int.natCast_emod a (b + 1)).symm
      have eg : Nat.gcd a (b + 1) = Nat.gcd (b + 1) (a % (b + 1)) := by
        rw [Nat.gcd_comm a (b + 1), Nat.gcd_rec (b + 1) a, Nat.gcd_comm]
      simp only [spec_moPart.l0]
      rw [if_pos (by omega), if_neg (by omega), em]
      rw [eg]; exact hk
theorem spec_moPart_ev (a b : Int) (ha : 0 ≤ a) (hb : 0 < b) (ha' : a ≤ 4611686018427387904) (hb' : b ≤ 4611686018427387904) : Ev (fun k => spec_moPart.f k a b) (low a b) := by
  have hl := low_bd ha hb
  have h := spec_moPart_l0 a b b.natAbs b.natAbs a.natAbs (by omega) (by omega)
  rw [Int.tdiv_eq_ediv_of_nonneg ha, Int.tdiv_eq_ediv_of_nonneg (by omega)] at h
  have e : (wrap64 (a / (Nat.gcd a.natAbs b.natAbs : Int)), wrap64 (b / (Nat.gcd a.natAbs b.natAbs : Int))) = low a b := by
    rw [show a / (Nat.gcd a.natAbs b.natAbs : Int) = (low a b).1 from rfl, show b / (Nat.gcd a.natAbs b.natAbs : Int) = (low a b).2 from rfl, wrap_id (by omega) (by omega), wrap_id (by omega) (by omega)]
  rw [e] at h
  refine Ev.of1 h fun k hk => ?_
  simp only [spec_moPart.f]
  rw [show ((a.natAbs : Nat) : Int) = a by omega, show ((b.natAbs : Nat) : Int) = b by omega] at hk
  exact hk
theorem chance_bd {n : Nat} {t : Int} (h0 : 0 ≤ t) (h : t * 100 ^ (n + 1) ≤ 1000000000000) : t * 100 ≤ 1000000000000 ∧ t * 100 * 100 ^ n ≤ 1000000000000 := by
  have hp := pow_ge n
  have e : t * 100 ^ (n + 1) = t * 100 * 100 ^ n := by rw [Int.pow_succ, Int.mul_assoc, Int.mul_comm 100 (100 ^ n)]
  rw [e] at h
  have h2 : t * 100 * 1 ≤ t * 100 * 100 ^ n := Int.mul_le_mul_of_nonneg_left hp (by omega)
  omega
theorem chance_small (n : Nat) (h : n ≤ 5) : (1 : Int) * 100 ^ n ≤ 1000000000000 := by
  rcases (by omega : n = 0 ∨ n = 1 ∨ n = 2 ∨ n = 3 ∨ n = 4 ∨ n = 5) with rfl | rfl | rfl | rfl | rfl | rfl <;> decide
theorem spec_brChance_l0 (f r : Int) (c : Bool) (hm : machOk f r = true) : ∀ (n : Nat) (p : Int × Int), n ≤ 100 → 0 ≤ p.1 → 0 ≤ p.2 → (p.1 + p.2) * 100 ^ n ≤ 1000000000000 → Ev (fun k => spec_brChance.l0 k (n : Int) p.1 (p.1 + p.2) f r c) ((turns f r n p).1, (turns f r n p).1 + (turns f r n p).2)
  | 0, p, hn, h1, h2, h => Ev.next0 fun k => by
      simp only [spec_brChance.l0]
      rw [if_neg (by omega)]; rfl
  | n + 1, p, hn, h1, h2, h => by
      have hb := chance_bd (by omega) h
      have tb := turn_bd hm h1 h2
      have ts := turn_sum hm h1 h2
      have hmm := hm
      simp only [machOk, decide_eq_true_eq] at hmm
      refine Ev.next1 (spec_brChance_l0 f r c hm n (turn f r p) (by omega) ts.1 ts.2.1 (by rw [ts.2.2]; exact hb.2)) fun k hk => ?_
      simp only [spec_brChance.l0]
      rw [if_pos (by omega), wrap_id (x := ((n + 1 : Nat) : Int) - 1) (by omega) (by omega), wrap_id (x := 100 - f) (by omega) (by omega), wrap_id (x := p.1 * (100 - f)) (by omega) (by omega), wrap_id (x := p.1 + p.2 - p.1) (by omega) (by omega), show p.1 + p.2 - p.1 = p.2 by omega,
        wrap_id (x := p.2 * r) (by omega) (by omega), wrap_id (x := p.1 * (100 - f) + p.2 * r) (by omega) (by omega), wrap_id (x := (p.1 + p.2) * 100) (by omega) (by omega), show ((n + 1 : Nat) : Int) - 1 = (n : Int) by omega]
      rw [ts.2.2] at hk
      exact hk
theorem spec_brChance_ev (f r : Int) (c : Bool) (hm : machOk f r = true) (n : Nat) (h : n ≤ 5) : Ev (fun k => spec_brChance.f k f r c (n : Int)) ((turns f r n (begin_ c)).1, 100 ^ n) := by
  have hb := chance_small n h
  cases c with
  | true =>
    have hs := turns_sum hm n (begin_ true) (by decide) (by decide)
    have e : (turns f r n (begin_ true)).1 + (turns f r n (begin_ true)).2 = 100 ^ n := by rw [hs.2.2]; simp [begin_]
    have hl := spec_brChance_l0 f r true hm n (1, 0) (by omega) (by simp) (by simp) (by simpa using hb)
    have hj : Ev (fun k => spec_brChance.j0 k (n : Int) 1 1 f r true) ((turns f r n (begin_ true)).1, 100 ^ n) := by
      refine Ev.next1 hl fun k hk => ?_
      simp only [spec_brChance.j0]; rw [← e]; exact hk
    exact Ev.of1 hj fun k hk => by simp only [spec_brChance.f, if_true]; exact hk
  | false =>
    have hs := turns_sum hm n (begin_ false) (by decide) (by decide)
    have e : (turns f r n (begin_ false)).1 + (turns f r n (begin_ false)).2 = 100 ^ n := by rw [hs.2.2]; simp [begin_]
    have hl := spec_brChance_l0 f r false hm n (0, 1) (by omega) (by simp) (by simp) (by simpa using hb)
    have hj : Ev (fun k => spec_brChance.j0 k (n : Int) 0 1 f r false) ((turns f r n (begin_ false)).1, 100 ^ n) := by
      refine Ev.next1 hl fun k hk => ?_
      simp only [spec_brChance.j0]; rw [← e]; exact hk
    exact Ev.of1 hj fun k hk => by simp only [spec_brChance.f]; rw [if_neg (by simp)]; exact hk
def chanceAt (f r : Int) (c : Bool) (s : Nat) : Int := (turns f r s (begin_ c)).1
theorem chanceAt_bd {f r : Int} {c : Bool} (hm : machOk f r = true) (s : Nat) (hs : s ≤ 5) : 0 ≤ chanceAt f r c s ∧ chanceAt f r c s ≤ 100 ^ s := by
  have h := turns_sum hm s (begin_ c) (by cases c <;> decide) (by cases c <;> decide)
  have e : (begin_ c).1 + (begin_ c).2 = 1 := by cases c <;> rfl
  rw [e, Int.one_mul] at h
  unfold chanceAt; omega
theorem small_pow (n : Nat) (h : n ≤ 5) : (100 : Int) ^ n ≤ 10000000000 := by
  rcases (by omega : n = 0 ∨ n = 1 ∨ n = 2 ∨ n = 3 ∨ n = 4 ∨ n = 5) with rfl | rfl | rfl | rfl | rfl | rfl <;> decide
def meanCh (f r : Int) (c : Bool) (n : Int) : Int × Int × Bool := if machOk f r = true ∧ (0 ≤ n ∧ n ≤ 5) then
  ((low (meanSum (chanceAt f r c) (n.toNat - 1) n.toNat) (100 ^ (n.toNat - 1))).1, (low (meanSum (chanceAt f r c) (n.toNat - 1) n.toNat) (100 ^ (n.toNat - 1))).2, true) else (0, 0, false)
theorem mean_low (f r : Int) (c : Bool) (hm : machOk f r = true) (n : Nat) (hn : n ≤ 5) : low (meanSum (chanceAt f r c) 4 n) 100000000 = low (meanSum (chanceAt f r c) (n - 1) n) (100 ^ (n - 1)) := by
  have hb := (meanSum_bd (e := n - 1) (fun s hs => chanceAt_bd (c := c) hm s hs) n (by omega) hn).1
  have hs := meanSum_scale (chanceAt f r c) (n - 1) (4 - (n - 1)) n (by omega)
  rw [show n - 1 + (4 - (n - 1)) = 4 by omega] at hs
  have he : (100000000 : Int) = 100 ^ (n - 1) * 100 ^ (4 - (n - 1)) := by rw [← Int.pow_add, show n - 1 + (4 - (n - 1)) = 4 by omega]; rfl
  rw [hs, he]
  exact low_scale hb.1 (by have := pow_ge (n - 1); omega) (by have := pow_ge (4 - (n - 1)); omega)
theorem spec_MeanReady_l0 (f r : Int) (c : Bool) (hm : machOk f r = true) (n : Nat) (hn : n ≤ 5) : ∀ (d j : Nat), j + d = n → Ev (fun k => spec_MeanReady.l0 k (n : Int) (meanSum (chanceAt f r c) 4 j) j f r c) ((low (meanSum (chanceAt f r c) 4 n) 100000000).1, (low (meanSum (chanceAt f r c) 4 n) 100000000).2, true)
  | 0, j, hd => by
      obtain rfl : j = n := by omega
      have hb := (meanSum_bd (e := 4) (fun s hs => chanceAt_bd (c := c) hm s hs) j (by omega) hn).1
      have h4 : (100 : Int) ^ 4 = 100000000 := by decide
      rw [h4] at hb
      refine Ev.next1 (spec_moPart_ev (meanSum (chanceAt f r c) 4 j) 100000000 hb.1 (by omega) (by omega) (by omega)) fun k hk => ?_
      simp only [spec_MeanReady.l0]
      rw [if_neg (by omega), hk]; rfl
  | d + 1, j, hd => by
      have hq := meanSum_bd (e := 4) (fun s hs => chanceAt_bd (c := c) hm s hs) j (by omega) (by omega)
      have h4 : (100 : Int) ^ 4 = 100000000 := by decide
      have hb := hq.1
      have hc := hq.2 (by omega)
      rw [h4] at hb hc
      have hp := pow_ge j
      have hp4 := pow_ge (4 - j)
      have hs4 := small_pow (4 - j) (by omega)
      refine Ev.next2 (spec_brChance_ev f r c hm j (by omega)) (spec_MeanReady_l0 f r c hm n hn d (j + 1) (by omega)) fun k h1 h2 => ?_
      have hcc : (turns f r j (begin_ c)).1 = chanceAt f r c j := rfl
      simp only [spec_MeanReady.l0, h1, Option.bind_some]
      rw [if_pos (by omega), if_neg (by omega), pow_div j (by omega), wrap_id (x := 100 ^ (4 - j)) (by omega) (by omega), hcc, wrap_id (x := chanceAt f r c j * 100 ^ (4 - j)) (by omega) (by omega), wrap_id (x := meanSum (chanceAt f r c) 4 j + chanceAt f r c j * 100 ^ (4 - j)) (by omega) (by omega), wrap_id (by omega) (by omega)]
      exact h2
theorem spec_MeanReady_no (f r : Int) (c : Bool) (n : Int) : Ev (fun k => spec_MeanReady.j0 k n true f r c) (0, 0, false) := Ev.next0 fun k => by simp [spec_MeanReady.j0]
theorem spec_MeanReady_ev (f r : Int) (c : Bool) (n : Int) : Ev (fun k => spec_MeanReady.f k f r c n) (meanCh f r c n) := by
  by_cases h : machOk f r = true ∧ (0 ≤ n ∧ n ≤ 5)
  · obtain ⟨hm, hn⟩ := h
    have hj : Ev (fun k => spec_MeanReady.j0 k n false f r c) (meanCh f r c n) := by
      refine Ev.next1 (spec_MeanReady_l0 f r c hm n.toNat (by omega) n.toNat 0 (by omega)) fun k hk => ?_
      rw [show ((n.toNat : Nat) : Int) = n by omega, mean_low f r c hm n.toNat (by omega)] at hk
      simp only [spec_MeanReady.j0]
      rw [if_neg (by simp), meanCh, if_pos ⟨hm, hn⟩]; exact hk
    refine Ev.of1 hj fun k hk => ?_
    simp only [spec_MeanReady.f, spec_brGood_eq, spec_l1In_eq, Option.bind_some]
    rw [if_pos hm, show (!decide (0 ≤ n ∧ n ≤ 5)) = false by simp [hn]]; exact hk
  · refine Ev.of1 (spec_MeanReady_no f r c n) fun k hk => ?_
    simp only [spec_MeanReady.f, spec_brGood_eq, spec_l1In_eq, Option.bind_some]
    rw [meanCh, if_neg h]
    by_cases hm : machOk f r = true
    · rw [if_pos hm, show (!decide (0 ≤ n ∧ n ≤ 5)) = true by
        have : ¬ (0 ≤ n ∧ n ≤ 5) := fun q => h ⟨hm, q⟩
        simp [decide_eq_false this]]; exact hk
    · rw [if_neg hm]; exact hk
theorem impl_IsMachine_eq (a b : Int) (c : Bool) : impl_IsMachine.f a b c = some (machOk a b) := by
  simp only [impl_IsMachine.f, machOk]
  repeat' split
  all_goals first | (congr 1; rw [decide_eq_decide]; omega) | (congr 1; symm; simp; omega)
theorem impl_abs_eq (a : Int) (h0 : -9223372036854775807 ≤ a) (h1 : a ≤ 9223372036854775807) : impl_abs.f a = some (max a (-a)) := by
  simp only [impl_abs.f, mx_eq]
  rw [wrap_id (by omega) (by omega)]
theorem impl_lowest_l0 (x y : Int) : ∀ (n b a : Nat), b ≤ n → 0 < a + b → Ev (fun k => impl_lowest.l0 k x y (a : Int) (b : Int)) (wrap64 (Int.tdiv x (Nat.gcd a b : Int)), wrap64 (Int.tdiv y (Nat.gcd a b : Int)))
  | n, 0, a, hn, h => Ev.next0 fun k => by
      simp only [impl_lowest.l0, Nat.gcd_zero_right]
      rw [if_pos (by omega), if_neg (by omega)]
  | 0, b + 1, a, hn, h => by omega
  | n + 1, b + 1, a, hn, h => by
      have hlt := Nat.mod_lt a (show 0 < b + 1 by omega)
      refine Ev.next1 (impl_lowest_l0 x y n (a % (b + 1)) (b + 1) (by omega) (by omega)) fun k hk => ?_
      have em : Int.tmod (a : Int) ((b + 1 : Nat) : Int) = ((a % (b + 1) : Nat) : Int) := by
        rw [Int.tmod_eq_emod_of_nonneg (by omega)]; exact (Int.natCast_emod a (b + 1)).symm
      have eg : Nat.gcd a (b + 1) = Nat.gcd (b + 1) (a % (b + 1)) := by
        rw [Nat.gcd_comm a (b + 1), Nat.gcd_rec (b + 1) a, Nat.gcd_comm]
      simp only [impl_lowest.l0]
      rw [if_neg (by omega), em]
      rw [eg]; exact hk
theorem impl_lowest_ev (a b : Int) (ha : 0 ≤ a) (hb : 0 < b) (ha' : a ≤ 4611686018427387904) (hb' : b ≤ 4611686018427387904) : Ev (fun k => impl_lowest.f k a b) (low a b) := by
  have hl := low_bd ha hb
  have h := impl_lowest_l0 a b b.natAbs b.natAbs a.natAbs (by omega) (by omega)
  rw [Int.tdiv_eq_ediv_of_nonneg ha, Int.tdiv_eq_ediv_of_nonneg (by omega)] at h
  have e : (wrap64 (a / (Nat.gcd a.natAbs b.natAbs : Int)), wrap64 (b / (Nat.gcd a.natAbs b.natAbs : Int))) = low a b := by
    rw [show a / (Nat.gcd a.natAbs b.natAbs : Int) = (low a b).1 from rfl, show b / (Nat.gcd a.natAbs b.natAbs : Int) = (low a b).2 from rfl, wrap_id (by omega) (by omega), wrap_id (by omega) (by omega)]
  rw [e] at h
  refine Ev.of1 h fun k hk => ?_
  simp only [impl_lowest.f, impl_abs_eq a (by omega) (by omega), Option.bind_some]
  rw [show ((a.natAbs : Nat) : Int) = max a (-a) by omega, show ((b.natAbs : Nat) : Int) = b by omega] at hk
  exact hk
-- needs: spec_brChance
theorem impl_readyChances_l0 (f r : Int) (c : Bool) (hm : machOk f r = true) : ∀ (n : Nat) (p : Int × Int) (l : List Int), 0 ≤ p.1 → 0 ≤ p.2 → (p.1 + p.2) * 100 ^ n ≤ 1000000000000 → l.length + n ≤ 1000 → Ev (fun k => impl_readyChances.l0 k (n : Int) p.1 p.2 l f r c) (l ++ tells f r n p)
  | 0, p, l, h1, h2, h, hl => Ev.next0 fun k => by
      simp only [impl_readyChances.l0]
      rw [if_neg (by omega)]; simp [tells]
  | n + 1, p, l, h1, h2, h, hl => by
      have hb := chance_bd (by omega) h
      have tb := turn_bd hm h1 h2
      have ts := turn_sum hm h1 h2
      have hmm := hm
      simp only [machOk, decide_eq_true_eq] at hmm
      refine Ev.next1 (impl_readyChances_l0 f r c hm n (turn f r p) (l ++ [(turn f r p).1]) ts.1 ts.2.1 (by rw [ts.2.2]; exact hb.2) (by simp; omega)) fun k hk => ?_
      simp only [impl_readyChances.l0]
      rw [if_pos (by omega), if_pos (by omega), wrap_id (x := ((n + 1 : Nat) : Int) - 1) (by omega) (by omega), wrap_id (x := 100 - f) (by omega) (by omega), wrap_id (x := p.1 * (100 - f)) (by omega) (by omega), wrap_id (x := p.2 * r) (by omega) (by omega), wrap_id (x := p.1 * (100 - f) + p.2 * r) (by omega) (by omega),
        wrap_id (x := p.1 * f) (by omega) (by omega), wrap_id (x := 100 - r) (by omega) (by omega), wrap_id (x := p.2 * (100 - r)) (by omega) (by omega), wrap_id (x := p.1 * f + p.2 * (100 - r)) (by omega) (by omega), show ((n + 1 : Nat) : Int) - 1 = (n : Int) by omega]
      rw [List.append_assoc] at hk
      exact hk
theorem impl_readyChances_ev (f r : Int) (c : Bool) (hm : machOk f r = true) (n : Nat) (h : n ≤ 5) : Ev (fun k => impl_readyChances.f k f r c (n : Int)) ((begin_ c).1 :: tells f r n (begin_ c)) := by
  have hb := chance_small n h
  cases c with
  | true =>
    have hl := impl_readyChances_l0 f r true hm n (1, 0) [1] (by simp) (by simp) (by simpa using hb) (by simp; omega)
    have hj : Ev (fun k => impl_readyChances.j0 k (n : Int) 1 0 f r true) ((begin_ true).1 :: tells f r n (begin_ true)) := by
      refine Ev.next1 hl fun k hk => ?_
      simp only [impl_readyChances.j0]; exact hk
    exact Ev.of1 hj fun k hk => by simp only [impl_readyChances.f, if_true]; exact hk
  | false =>
    have hl := impl_readyChances_l0 f r false hm n (0, 1) [0] (by simp) (by simp) (by simpa using hb) (by simp; omega)
    have hj : Ev (fun k => impl_readyChances.j0 k (n : Int) 0 1 f r false) ((begin_ false).1 :: tells f r n (begin_ false)) := by
      refine Ev.next1 hl fun k hk => ?_
      simp only [impl_readyChances.j0]; exact hk
    exact Ev.of1 hj fun k hk => by simp only [impl_readyChances.f]; rw [if_neg (by simp)]; exact hk
theorem chance_get (f r : Int) (c : Bool) (n s : Nat) (h : s ≤ n) : ((begin_ c).1 :: tells f r n (begin_ c))[s]? = some (turns f r s (begin_ c)).1 := by
  cases s with
  | zero => rfl
  | succ s => rw [List.getElem?_cons_succ, tells_get f r n _ s (by omega)]
theorem impl_power_l0 : ∀ (n : Nat) (a : Int), n ≤ 100 → 0 ≤ a → a * 100 ^ n ≤ 1000000000000 → Ev (fun k => impl_power.l0 k 100 (n : Int) a) (a * 100 ^ n)
  | 0, a, hn, h0, h => Ev.next0 fun k => by
      simp only [impl_power.l0]
      rw [if_neg (by omega)]; simp
  | n + 1, a, hn, h0, h => by
      have hp := pow_ge n
      have e : a * 100 ^ (n + 1) = a * 100 * 100 ^ n := by rw [Int.pow_succ, Int.mul_assoc, Int.mul_comm 100 (100 ^ n)]
      rw [e] at h ⊢
      have h2 : a * 100 * 1 ≤ a * 100 * 100 ^ n := Int.mul_le_mul_of_nonneg_left hp (by omega)
      refine Ev.next1 (impl_power_l0 n (a * 100) (by omega) (by omega) h) fun k hk => ?_
      simp only [impl_power.l0]
      rw [if_pos (by omega), wrap_id (by omega) (by omega), wrap_id (by omega) (by omega), show ((n + 1 : Nat) : Int) - 1 = (n : Int) by omega]
      exact hk
theorem impl_power_ev (n : Nat) (h : n ≤ 5) : Ev (fun k => impl_power.f k 100 (n : Int)) (100 ^ n) := by
  have hb : (1 : Int) * 100 ^ n ≤ 1000000000000 := by
    rcases (by omega : n = 0 ∨ n = 1 ∨ n = 2 ∨ n = 3 ∨ n = 4 ∨ n = 5) with rfl | rfl | rfl | rfl | rfl | rfl <;> decide
  refine Ev.of1 (impl_power_l0 n 1 (by omega) (by omega) hb) fun k hk => ?_
  simp only [impl_power.f]; rw [hk, Int.one_mul]
-- needs: spec_MeanReady
theorem impl_MeanReady_l0 (f r : Int) (c : Bool) (hm : machOk f r = true) (n : Nat) (hn : n ≤ 5) (h1 : 1 ≤ n) : ∀ (d j : Nat), j + d = n → Ev (fun k => impl_MeanReady.l0 k (n : Int) (meanSum (chanceAt f r c) (n - 1) j) ((begin_ c).1 :: tells f r (n - 1) (begin_ c)) (n : Int) j)
    ((low (meanSum (chanceAt f r c) (n - 1) n) (100 ^ (n - 1))).1, (low (meanSum (chanceAt f r c) (n - 1) n) (100 ^ (n - 1))).2, true)
  | 0, j, hd => by
      obtain rfl : j = n := by omega
      have hb := (meanSum_bd (e := j - 1) (fun s hs => chanceAt_bd (c := c) hm s hs) j (by omega) hn).1
      have hp := pow_ge (j - 1)
      have hs := small_pow (j - 1) (by omega)
      have hx : (j : Int) * 100 ^ (j - 1) ≤ 5 * 10000000000 := Int.mul_le_mul (by omega) hs (by omega) (by omega)
      refine Ev.next2 (impl_power_ev (j - 1) (by omega)) (impl_lowest_ev (meanSum (chanceAt f r c) (j - 1) j) (100 ^ (j - 1)) hb.1 (by omega) (by omega) (by omega)) fun k e1 e2 => ?_
      simp only [impl_MeanReady.l0, mx_eq]
      rw [if_neg (by omega), wrap_id (by omega) (by omega), show max 0 ((j : Int) - 1) = ((j - 1 : Nat) : Int) by omega, e1, Option.bind_some, e2]; rfl
  | d + 1, j, hd => by
      have hq := meanSum_bd (e := n - 1) (fun s hs => chanceAt_bd (c := c) hm s hs) j (by omega) (by omega)
      have hb := hq.1
      have hc := hq.2 (by omega)
      have hp := pow_ge (n - 1)
      have hs := small_pow (n - 1) (by omega)
      have hx : (j : Int) * 100 ^ (n - 1) ≤ 5 * 10000000000 := Int.mul_le_mul (by omega) hs (by omega) (by omega)
      have hl : ((begin_ c).1 :: tells f r (n - 1) (begin_ c)).length = n := by simp [tells_length]; omega
      have e := rd_get (chance_get f r c (n - 1) j (by omega))
      refine Ev.next2 (impl_power_ev (n - 1 - j) (by omega)) (impl_MeanReady_l0 f r c hm n hn h1 d (j + 1) (by omega)) fun k e1 e2 => ?_
      have hcc : (turns f r j (begin_ c)).1 = chanceAt f r c j := rfl
      simp only [impl_MeanReady.l0, e]
      rw [if_pos (by omega), if_pos (by omega), if_pos (by omega), wrap_id (x := (n : Int) - 1) (by omega) (by omega), wrap_id (x := (n : Int) - 1 - (j : Int)) (by omega) (by omega), show (n : Int) - 1 - (j : Int) = ((n - 1 - j : Nat) : Int) by omega, e1, Option.bind_some, hcc,
        wrap_id (x := chanceAt f r c j * 100 ^ (n - 1 - j)) (by omega) (by omega), wrap_id (x := meanSum (chanceAt f r c) (n - 1) j + chanceAt f r c j * 100 ^ (n - 1 - j)) (by omega) (by omega), wrap_id (by omega) (by omega)]
      exact e2
theorem impl_MeanReady_no (f r : Int) (c : Bool) (n : Int) : Ev (fun k => impl_MeanReady.j0 k n true f r c) (0, 0, false) := Ev.next0 fun k => by simp [impl_MeanReady.j0]
theorem impl_MeanReady_ev (f r : Int) (c : Bool) (n : Int) : Ev (fun k => impl_MeanReady.f k f r c n) (meanCh f r c n) := by
  by_cases h : machOk f r = true ∧ (0 ≤ n ∧ n ≤ 5)
  · obtain ⟨hm, hn⟩ := h
    have hj : Ev (fun k => impl_MeanReady.j0 k n false f r c) (meanCh f r c n) := by
      by_cases h0 : n = 0
      · subst h0
        refine Ev.next2 (impl_power_ev 0 (by omega)) (impl_lowest_ev 0 (100 ^ 0) (by omega) (by decide) (by omega) (by decide)) fun k e1 e2 => ?_
        simp only [impl_MeanReady.j0, mx_eq]
        rw [if_neg (by simp), if_neg (by omega), wrap_id (by omega) (by omega), show max (0 : Int) (0 - 1) = ((0 : Nat) : Int) by omega, e1, Option.bind_some, e2, meanCh, if_pos ⟨hm, hn⟩]; rfl
      · have hl : ((begin_ c).1 :: tells f r (n.toNat - 1) (begin_ c)).length = n.toNat := by simp [tells_length]; omega
        refine Ev.next2 (impl_readyChances_ev f r c hm (n.toNat - 1) (by omega)) (impl_MeanReady_l0 f r c hm n.toNat (by omega) (by omega) n.toNat 0 (by omega)) fun k e1 e2 => ?_
        simp only [impl_MeanReady.j0]
        rw [if_neg (by simp), if_pos (by omega), wrap_id (by omega) (by omega), show n - 1 = ((n.toNat - 1 : Nat) : Int) by omega, e1, Option.bind_some, hl, meanCh, if_pos ⟨hm, hn⟩]
        rw [show ((n.toNat : Nat) : Int) = n by omega] at e2 ⊢
        exact e2
    refine Ev.of1 hj fun k hk => ?_
    simp only [impl_MeanReady.f, impl_IsMachine_eq, Option.bind_some]
    rw [if_pos hm, if_neg (by omega), show decide (n > 5) = false by simp; omega]; exact hk
  · refine Ev.of1 (impl_MeanReady_no f r c n) fun k hk => ?_
    simp only [impl_MeanReady.f, impl_IsMachine_eq, Option.bind_some]
    rw [meanCh, if_neg h]
    by_cases hm : machOk f r = true
    · rw [if_pos hm]
      by_cases h0 : n < 0
      · rw [if_pos h0]; exact hk
      · rw [if_neg h0, show decide (n > 5) = true by
          have : ¬ (0 ≤ n ∧ n ≤ 5) := fun q => h ⟨hm, q⟩
          simp; omega]; exact hk
    · rw [if_neg hm]; exact hk
theorem FnExactMeanReady : Stat.FnExactMeanReady := by
  intro f r c n _ _ _
  refine Ev.rounds ?_
  refine (ev_and (spec_MeanReady_ev f r c n) <| ev_one (impl_MeanReady_ev f r c n)).ev fun k ⟨h1, h2⟩ => ?_
  simp only [laws_FnExactMeanReady.f, laws_toMachine.f, h1, h2, Option.bind_some]
  simp
end Go.Proofs.Ytbkolnbdcifnlaa.PureFnExactMeanReady
namespace Go.Proofs.Ytbkolnbdcifnlaa.Pure
theorem FnExactMeanReady : Stat.FnExactMeanReady := PureFnExactMeanReady.FnExactMeanReady
end Go.Proofs.Ytbkolnbdcifnlaa.Pure
